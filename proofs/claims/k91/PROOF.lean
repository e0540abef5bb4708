import PyProof.Rows.All
import Wide.All
import OpenK.AllK
import Wide.FinOn
import HandS.ForMost
import HandS.ForExc
import HandS.Flow
import HandS.Style
import HandS.CallSlots
import HandS.Defaults
import HandS.HeadHook1
import HandS.HeadHook2
import HandS.Small
import HandS.ExcCtx
import HandS.SuiteRaise
import HandS.TupAny
import HandS.NoneIn
import PyProof.NeData
import KE.KEqDict
import KE.KDictSum
import KE.KDictList
import PyProof.Rows.SortShellAny
import HandS.More
import KE.KExcIs
import HandS.IsInst
import HandS.ExcValue
import HandS.ExcIs
import HandS.ExcField
import HandS.Text
import HandS.HeadHook3
import HandS.HeadHook4
import HandS.HeadEnd
import HandS.Head2
import HandS.EndBits
import HandS.HeadWalk
import HandS.TryOnly
import KE.KIntText
import PyProof.DictCopy
import HandS.WrittenGet
import HandS.ExcInit
import HandS.ExcInitHot
import HandS.ListEq
import HandS.DeepEq
import HandS.Set
import HandS.Strs
import HandS.SetFor
import HandS.TupMul
import PySem.Challenge.RW_nestways_k91_whole_least_shape
set_option Elab.async false
set_option linter.all false
set_option maxRecDepth 100000
set_option maxHeartbeats 4000000
namespace VL
open PySem PySem.Spec PyProof.Rows L2

/-- an exception object of the class cls, held as a value -/
def ExH (cls : Value) (d : Option Addr) (a : Addr) : HO := .ext fun h => ∃ (oe : Obj) (vs : Array Value), h.get? a = some oe ∧ Zc cls d oe ∧ oe.data = .fields vs
/-- what a thing with owned parts is: a list, a tuple, an instance -/
inductive Bk where
  | lst | tup | ins (C : Str) (ns : List Str)
/-- deep values -/
inductive D where
  | non | bl (b : Bool) | int (i : Int) | str (z : Str)
  | lst (xs : List D) | tup (xs : List D) | dct (kvs : List (Key × D))
  | fzl (xs : List D)
  | exc (C : Str) (fs : List (Str × D))
  /-- a thing with parts, some of them owned (at their addresses) -/
  | box (k : Bk) (fs : List (D × Option Addr))

mutual
/-- v stands for d, all that it reaches lies in G -/
def Rep (K : PySem.W.Frag) (G : Hp) : D → V → Prop
  | .non, v => v = .non
  | .bl b, v => v = .bl b
  | .int i, v => v = .int i
  | .str z, v => v = .str z ∧ z.length ≤ sizeLine
  | .lst ds, v => ∃ a xs, v = .ref a ∧ G a = some (.lst xs) ∧ xs.length ≤ sizeLine ∧ Reps K G ds xs
  | .tup ds, v => ∃ a xs, v = .ref a ∧ G a = some (.tup xs) ∧ xs.length ≤ sizeLine ∧ Reps K G ds xs
  | .dct kvs, v => ∃ a ys, v = .ref a ∧ G a = some (.dK ys) ∧ ys.length ≤ sizeLine ∧ Repk K G kvs ys
  | .fzl ds, v => ∃ a xs, v = .ref a ∧ SqL K G a xs ∧ xs.length ≤ sizeLine ∧ Reps K G ds xs
  | .exc C fs, v => ∃ a d, v = .ref a ∧ G a = some (ExH (.ref (He.ga K C)) d a) ∧ ((d = none ∧ fs = []) ∨ ∃ dd ys, d = some dd ∧ G dd = some (.xd ys) ∧ Repf K G fs ys)
  | .box k fs, v => False
def Reps (K : PySem.W.Frag) (G : Hp) : List D → List V → Prop
  | [], xs => xs = []
  | d :: ds, xs => ∃ x r, xs = x :: r ∧ Rep K G d x ∧ Reps K G ds r
def Repk (K : PySem.W.Frag) (G : Hp) : List (Key × D) → List (Key × V) → Prop
  | [], ys => ys = []
  | (k, d) :: ds, ys => ∃ y r, ys = (k, y) :: r ∧ Rep K G d y ∧ Repk K G ds r
def Repf (K : PySem.W.Frag) (G : Hp) : List (Str × D) → List (Str × V) → Prop
  | [], ys => ys = []
  | (k, d) :: ds, ys => ∃ y r, ys = (k, y) :: r ∧ Rep K G d y ∧ Repf K G ds r
end
/-- G is within G' -/
def Gle (G G' : Hp) : Prop := ∀ a o, G a = some o → G' a = some o
theorem Gle.refl (G : Hp) : Gle G G := fun _ _ h => h
theorem Gle.trans {A B C : Hp} (h : Gle A B) (h' : Gle B C) : Gle A C := fun a o e => h' a o (h a o e)
theorem Gle.upd {G : Hp} {p : Addr} {o : HO} (h : G p = none) : Gle G (upd G p o) := fun a u e => by
  rw [upd_ne (ne_of_none e h)]; exact e
theorem SqL.gle {K : PySem.W.Frag} {G G' : Hp} (g : Gle G G') {a : Addr} {xs : List V} (h : SqL K G a xs) : SqL K G' a xs := by
  rcases h with (h | ⟨o, h⟩) | h
  · exact .inl (.inl (g _ _ h))
  · exact .inl (.inr ⟨o, g _ _ h⟩)
  · exact .inr h
mutual
theorem Rep.gle {K : PySem.W.Frag} {G G' : Hp} (g : Gle G G') : ∀ {d : D} {v : V}, Rep K G d v → Rep K G' d v
  | .non, _, h => h
  | .bl _, _, h => h
  | .int _, _, h => h
  | .str _, _, h => h
  | .lst _, _, h => by
    simp only [Rep] at h ⊢
    obtain ⟨a, xs, e, q, z, r⟩ := h
    exact ⟨a, xs, e, g _ _ q, z, Reps.gle g r⟩
  | .tup _, _, h => by
    simp only [Rep] at h ⊢
    obtain ⟨a, xs, e, q, z, r⟩ := h
    exact ⟨a, xs, e, g _ _ q, z, Reps.gle g r⟩
  | .dct _, _, h => by
    simp only [Rep] at h ⊢
    obtain ⟨a, xs, e, q, z, r⟩ := h
    exact ⟨a, xs, e, g _ _ q, z, Repk.gle g r⟩
  | .fzl _, _, h => by
    simp only [Rep] at h ⊢
    obtain ⟨a, xs, e, q, z, r⟩ := h
    exact ⟨a, xs, e, SqL.gle g q, z, Reps.gle g r⟩
  | .exc _ _, _, h => by
    simp only [Rep] at h ⊢
    obtain ⟨a, d, e, q, z⟩ := h
    refine ⟨a, d, e, g _ _ q, ?_⟩
    rcases z with z | ⟨dd, ys, e1, e2, r⟩
    · exact .inl z
    · exact .inr ⟨dd, ys, e1, g _ _ e2, Repf.gle g r⟩
  | .box _ _, _, h => by simp only [Rep] at h
theorem Reps.gle {K : PySem.W.Frag} {G G' : Hp} (g : Gle G G') : ∀ {ds : List D} {xs : List V}, Reps K G ds xs → Reps K G' ds xs
  | [], _, h => h
  | _ :: _, _, h => by
    simp only [Reps] at h ⊢
    obtain ⟨x, r, e, h1, h2⟩ := h
    exact ⟨x, r, e, Rep.gle g h1, Reps.gle g h2⟩
theorem Repk.gle {K : PySem.W.Frag} {G G' : Hp} (g : Gle G G') : ∀ {ds : List (Key × D)} {xs : List (Key × V)}, Repk K G ds xs → Repk K G' ds xs
  | [], _, h => h
  | (_, _) :: _, _, h => by
    simp only [Repk] at h ⊢
    obtain ⟨x, r, e, h1, h2⟩ := h
    exact ⟨x, r, e, Rep.gle g h1, Repk.gle g h2⟩
theorem Repf.gle {K : PySem.W.Frag} {G G' : Hp} (g : Gle G G') : ∀ {ds : List (Str × D)} {xs : List (Str × V)}, Repf K G ds xs → Repf K G' ds xs
  | [], _, h => h
  | (_, _) :: _, _, h => by
    simp only [Repf] at h ⊢
    obtain ⟨x, r, e, h1, h2⟩ := h
    exact ⟨x, r, e, Rep.gle g h1, Repf.gle g h2⟩
end
theorem Reps.len {K : PySem.W.Frag} {G : Hp} : ∀ {ds : List D} {xs : List V}, Reps K G ds xs → xs.length = ds.length
  | [], _, h => by simp only [Reps] at h; subst h; rfl
  | _ :: _, _, h => by
    simp only [Reps] at h
    obtain ⟨x, r, e, h1, h2⟩ := h
    subst e; simp [Reps.len h2]
theorem Repk.len {K : PySem.W.Frag} {G : Hp} : ∀ {ds : List (Key × D)} {xs : List (Key × V)}, Repk K G ds xs → xs.length = ds.length
  | [], _, h => by simp only [Repk] at h; subst h; rfl
  | (_, _) :: _, _, h => by
    simp only [Repk] at h
    obtain ⟨x, r, e, h1, h2⟩ := h
    subst e; simp [Repk.len h2]
theorem Reps.get {K : PySem.W.Frag} {G : Hp} : ∀ {ds : List D} {xs : List V} {i : Nat} {d : D}, Reps K G ds xs → ds[i]? = some d → ∃ x, xs[i]? = some x ∧ Rep K G d x
  | [], _, _, _, _, e => by simp at e
  | c :: cs, _, i, d, h, e => by
    simp only [Reps] at h
    obtain ⟨x, r, rfl, h1, h2⟩ := h
    cases i with
    | zero => simp at e; subst e; exact ⟨x, by simp, h1⟩
    | succ i => simp at e; obtain ⟨y, q, hr⟩ := Reps.get h2 e; exact ⟨y, by simpa using q, hr⟩
theorem Reps.get' {K : PySem.W.Frag} {G : Hp} {ds : List D} {xs : List V} {i : Nat} {x : V} (h : Reps K G ds xs) (e : xs[i]? = some x) : ∃ d, ds[i]? = some d ∧ Rep K G d x := by
  have hl := h.len
  have hi : i < xs.length := (List.getElem?_eq_some_iff.mp e).1
  have e2 : ds[i]? = some (ds[i]'(by omega)) := List.getElem?_eq_getElem (by omega)
  obtain ⟨y, hy, r⟩ := h.get e2
  rw [e] at hy; cases hy
  exact ⟨_, e2, r⟩
theorem Reps.app {K : PySem.W.Frag} {G : Hp} : ∀ {ds es : List D} {xs ys : List V}, Reps K G ds xs → Reps K G es ys → Reps K G (ds ++ es) (xs ++ ys)
  | [], _, _, _, h, h' => by simp only [Reps] at h; subst h; exact h'
  | c :: cs, _, _, _, h, h' => by
    simp only [Reps] at h
    obtain ⟨x, r, rfl, h1, h2⟩ := h
    simp only [List.cons_append, Reps]
    exact ⟨x, _, rfl, h1, Reps.app h2 h'⟩
theorem Reps.nil {K : PySem.W.Frag} {G : Hp} : Reps K G [] [] := by simp [Reps]
theorem Reps.cons {K : PySem.W.Frag} {G : Hp} {d : D} {ds : List D} {x : V} {xs : List V} (h : Rep K G d x) (t : Reps K G ds xs) : Reps K G (d :: ds) (x :: xs) := by
  simp only [Reps]; exact ⟨x, xs, rfl, h, t⟩
theorem Reps.one {K : PySem.W.Frag} {G : Hp} {d : D} {x : V} (h : Rep K G d x) : Reps K G [d] [x] := .cons h .nil
theorem Reps.take {K : PySem.W.Frag} {G : Hp} : ∀ (n : Nat) {ds : List D} {xs : List V}, Reps K G ds xs → Reps K G (ds.take n) (xs.take n)
  | 0, _, _, _ => by simp [Reps]
  | n + 1, [], _, h => by simp only [Reps] at h; subst h; simp [Reps]
  | n + 1, c :: cs, _, h => by
    simp only [Reps] at h
    obtain ⟨x, r, rfl, h1, h2⟩ := h
    simp only [List.take_succ_cons]
    exact .cons h1 (Reps.take n h2)
theorem Reps.drop {K : PySem.W.Frag} {G : Hp} : ∀ (n : Nat) {ds : List D} {xs : List V}, Reps K G ds xs → Reps K G (ds.drop n) (xs.drop n)
  | 0, _, _, h => h
  | n + 1, [], _, h => by simp only [Reps] at h; subst h; simp [Reps]
  | n + 1, c :: cs, _, h => by
    simp only [Reps] at h
    obtain ⟨x, r, rfl, h1, h2⟩ := h
    simp only [List.drop_succ_cons]
    exact Reps.drop n h2
theorem Reps.set {K : PySem.W.Frag} {G : Hp} {d : D} {x : V} (q : Rep K G d x) : ∀ (n : Nat) {ds : List D} {xs : List V}, Reps K G ds xs → Reps K G (ds.set n d) (xs.set n x)
  | _, [], _, h => by simp only [Reps] at h; subst h; simp [Reps]
  | 0, c :: cs, _, h => by
    simp only [Reps] at h
    obtain ⟨y, r, rfl, h1, h2⟩ := h
    exact .cons q h2
  | n + 1, c :: cs, _, h => by
    simp only [Reps] at h
    obtain ⟨y, r, rfl, h1, h2⟩ := h
    exact .cons h1 (Reps.set q n h2)
end VL
set_option linter.all false
set_option maxRecDepth 100000
set_option maxHeartbeats 4000000
namespace VL
open PySem PySem.Spec PyProof.Rows L2

/-- a slot: unset, shared, owned (new here), lent (a parameter that is changed) -/
inductive Sv where
  | un | sh (d : D) | ow (d : D) | io (d : D)
abbrev En := List Sv
def Sv.d : Sv → D
  | .un => .non | .sh d => d | .ow d => d | .io d => d
/-- what a slot may be read as -/
def Sv.rd : Sv → Option D
  | .un => none | .sh d => some d | .ow d => some d | .io d => some d
def rd (env : En) (i : Nat) : Option D := (env[i]?).bind Sv.rd
structure FrD where
  H : Hp
  G : Hp
  W : Addr → Prop
  io : Nat → Option V
def Sub (G H : Hp) : Prop := ∀ a u, G a = some u → H a = some u ∨ ((∃ kvs, u = .dK kvs) ∧ ∃ o, H a = some (.frz o u))
/-- a container at p, in one hand -/
def OwC (K : PySem.W.Frag) (G H : Hp) (d : D) (p : Addr) : Prop := match d with
  | .lst ds => ∃ xs, H p = some (.lst xs) ∧ G p = none ∧ xs.length ≤ sizeLine ∧ Reps K G ds xs
  | .dct kvs => ∃ ys, H p = some (.dK ys) ∧ G p = none ∧ ys.length ≤ sizeLine ∧ Repk K G kvs ys
  | _ => False
/-- parts, some in one hand -/
def Parts (K : PySem.W.Frag) (G H : Hp) : List (D × Option Addr) → List V → Prop
  | [], xs => xs = []
  | (d, none) :: fs, xs => ∃ x r, xs = x :: r ∧ Rep K G d x ∧ Parts K G H fs r
  | (d, some p) :: fs, xs => ∃ r, xs = .ref p :: r ∧ OwC K G H d p ∧ Parts K G H fs r
def bxA (fs : List (D × Option Addr)) : List Addr := fs.filterMap (·.2)
def BkO (K : PySem.W.Frag) : Bk → List V → HO → Prop
  | .lst, xs, o => o = .lst xs
  | .tup, xs, o => o = .tup xs
  | .ins C ns, xs, o => ∃ dx, o = .ins (He.ga K C) dx (ns.zip xs) ∧ ns.length = xs.length
/-- the addresses that an owned thing owns -/
def OwA : D → V → Addr → Prop
  | .lst _, .ref p, a => a = p
  | .dct _, .ref p, a => a = p
  | .box _ fs, .ref p, a => a = p ∨ a ∈ bxA fs
  | _, _, _ => False
def OwR (K : PySem.W.Frag) (G H : Hp) (d : D) (v : V) : Prop := match d with
  | .lst ds => ∃ p xs, v = .ref p ∧ H p = some (.lst xs) ∧ G p = none ∧ xs.length ≤ sizeLine ∧ Reps K G ds xs
  | .dct kvs => ∃ p ys, v = .ref p ∧ H p = some (.dK ys) ∧ G p = none ∧ ys.length ≤ sizeLine ∧ Repk K G kvs ys
  | .box k fs => ∃ p xs o, v = .ref p ∧ H p = some o ∧ BkO K k xs o ∧ G p = none ∧ xs.length ≤ sizeLine ∧ Parts K G H fs xs ∧ (p :: bxA fs).Nodup
  | d => Rep K G d v
def SlR (K : PySem.W.Frag) (F : FrD) (G H : Hp) (i : Nat) : Sv → Option (Option V) → Prop
  | .un, _ => True
  | .sh d, o => ∃ v, o = some (some v) ∧ Rep K G d v
  | .ow d, o => ∃ v, o = some (some v) ∧ OwR K G H d v ∧ ∀ a, OwA d v a → F.H a = none
  | .io d, o => ∃ v, o = some (some v) ∧ OwR K G H d v ∧ (∀ a, OwA d v a → F.W a) ∧ F.io i = some v
def Owns : Sv → Option (Option V) → Addr → Prop
  | .ow d, some (some v), a => OwA d v a
  | .io d, some (some v), a => OwA d v a
  | _, _, _ => False
structure Ok (K : PySem.W.Frag) (F : FrD) (env : En) (σ : L2.St) (G H : Hp) : Prop where
  sub : Sub G H
  g0 : Gle F.G G
  keep : ∀ a o, F.H a = some o → ¬ F.W a → H a = some o
  new : ∀ a, F.H a ≠ none → F.G a = none → G a = none
  wH : ∀ a, F.W a → H a ≠ none
  wf : ∀ a, F.W a → F.H a ≠ none ∧ F.G a = none
  len : env.length = σ.length
  slot : ∀ (i : Nat) (s : Sv), env[i]? = some s → SlR K F G H i s (σ[i]?)
  sep : ∀ (i j : Nat) (s t : Sv) (a : Addr), env[i]? = some s → env[j]? = some t → i ≠ j → Owns s (σ[i]?) a → ¬ Owns t (σ[j]?) a

section
variable {K : PySem.W.Frag} {F : FrD} {env : En} {σ : L2.St} {G H G' H' : Hp} {d d' : D} {v : V} {p a : Addr} {o : HO}
theorem OwC.gle (g : Gle G G') (hn : G' p = none) (h : OwC K G H d p) : OwC K G' H d p := by
  cases d with
  | lst ds => obtain ⟨xs, h1, h2, h3, h4⟩ := h; exact ⟨xs, h1, hn, h3, h4.gle g⟩
  | dct ds => obtain ⟨xs, h1, h2, h3, h4⟩ := h; exact ⟨xs, h1, hn, h3, h4.gle g⟩
  | _ => exact h.elim
theorem OwC.heap (hh : H' p = H p) (h : OwC K G H d p) : OwC K G H' d p := by
  cases d with
  | lst ds => obtain ⟨xs, h1, h2⟩ := h; exact ⟨xs, hh.trans h1, h2⟩
  | dct ds => obtain ⟨xs, h1, h2⟩ := h; exact ⟨xs, hh.trans h1, h2⟩
  | _ => exact h.elim
theorem OwC.there (h : OwC K G H d p) : H p ≠ none ∧ G p = none := by
  cases d with
  | lst ds => obtain ⟨xs, h1, h2, _⟩ := h; exact ⟨by rw [h1]; simp, h2⟩
  | dct ds => obtain ⟨xs, h1, h2, _⟩ := h; exact ⟨by rw [h1]; simp, h2⟩
  | _ => exact h.elim
theorem bxA_none {fs : List (D × Option Addr)} : bxA ((d, none) :: fs) = bxA fs := by simp [bxA]
theorem bxA_some {fs : List (D × Option Addr)} : bxA ((d, some p) :: fs) = p :: bxA fs := by simp [bxA]
theorem Parts.gle (g : Gle G G') : ∀ {fs : List (D × Option Addr)} {xs : List V}, (∀ a ∈ bxA fs, G' a = none) → Parts K G H fs xs → Parts K G' H fs xs
  | [], _, _, h => h
  | (d, none) :: fs, _, hn, h => by
    simp only [Parts] at h ⊢
    obtain ⟨x, r, e, h1, h2⟩ := h
    exact ⟨x, r, e, h1.gle g, Parts.gle g (fun a ha => hn a (by rw [bxA_none]; exact ha)) h2⟩
  | (d, some p) :: fs, _, hn, h => by
    simp only [Parts] at h ⊢
    obtain ⟨r, e, h1, h2⟩ := h
    exact ⟨r, e, h1.gle g (hn p (by rw [bxA_some]; exact List.mem_cons_self)), Parts.gle g (fun a ha => hn a (by rw [bxA_some]; exact List.mem_cons_of_mem _ ha)) h2⟩
theorem Parts.heap : ∀ {fs : List (D × Option Addr)} {xs : List V}, (∀ a ∈ bxA fs, H' a = H a) → Parts K G H fs xs → Parts K G H' fs xs
  | [], _, _, h => h
  | (d, none) :: fs, _, hn, h => by
    simp only [Parts] at h ⊢
    obtain ⟨x, r, e, h1, h2⟩ := h
    exact ⟨x, r, e, h1, Parts.heap (fun a ha => hn a (by rw [bxA_none]; exact ha)) h2⟩
  | (d, some p) :: fs, _, hn, h => by
    simp only [Parts] at h ⊢
    obtain ⟨r, e, h1, h2⟩ := h
    exact ⟨r, e, h1.heap (hn p (by rw [bxA_some]; exact List.mem_cons_self)), Parts.heap (fun a ha => hn a (by rw [bxA_some]; exact List.mem_cons_of_mem _ ha)) h2⟩
theorem Parts.there : ∀ {fs : List (D × Option Addr)} {xs : List V}, Parts K G H fs xs → a ∈ bxA fs → H a ≠ none ∧ G a = none
  | [], _, _, ha => by simp [bxA] at ha
  | (d, none) :: fs, _, h, ha => by
    simp only [Parts] at h
    obtain ⟨x, r, e, h1, h2⟩ := h
    exact Parts.there h2 (by rw [bxA_none] at ha; exact ha)
  | (d, some p) :: fs, _, h, ha => by
    simp only [Parts] at h
    obtain ⟨r, e, h1, h2⟩ := h
    rw [bxA_some] at ha
    rcases List.mem_cons.mp ha with z | z
    · subst z; exact h1.there
    · exact Parts.there h2 z
theorem BkO.noXd {bk : Bk} {xs : List V} {ys : List (Str × V)} (h : BkO K bk xs (.xd ys)) {q : Prop} : q := by
  cases bk with
  | lst => cases h
  | tup => cases h
  | ins C ns => obtain ⟨dx, e, _⟩ := h; cases e
theorem Parts.noXd : ∀ {fs : List (D × Option Addr)} {xs : List V}, Parts K G H fs xs → a ∈ bxA fs → ∀ ys, ¬ H a = some (.xd ys)
  | [], _, _, ha => by simp [bxA] at ha
  | (d, none) :: fs, _, h, ha => by
    simp only [Parts] at h
    obtain ⟨x, r, e, h1, h2⟩ := h
    exact Parts.noXd h2 (by rw [bxA_none] at ha; exact ha)
  | (d, some p) :: fs, _, h, ha => by
    simp only [Parts] at h
    obtain ⟨r, e, h1, h2⟩ := h
    rw [bxA_some] at ha
    rcases List.mem_cons.mp ha with z | z
    · subst z
      intro ys e1
      cases d with
      | lst ds => obtain ⟨xs, h3, _⟩ := h1; rw [e1] at h3; cases h3
      | dct ds => obtain ⟨xs, h3, _⟩ := h1; rw [e1] at h3; cases h3
      | _ => exact h1.elim
    · exact Parts.noXd h2 z
theorem OwR.gle (g : Gle G G') (hn : ∀ a, OwA d v a → G' a = none) (h : OwR K G H d v) : OwR K G' H d v := by
  cases d with
  | lst ds =>
    obtain ⟨p, xs, rfl, h1, h2, h3, h4⟩ := h
    exact ⟨p, xs, rfl, h1, hn p rfl, h3, h4.gle g⟩
  | dct ds =>
    obtain ⟨p, xs, rfl, h1, h2, h3, h4⟩ := h
    exact ⟨p, xs, rfl, h1, hn p rfl, h3, h4.gle g⟩
  | box k fs =>
    obtain ⟨p, xs, o, rfl, h1, h2, h3, h4, h5, h6⟩ := h
    exact ⟨p, xs, o, rfl, h1, h2, hn p (.inl rfl), h4, h5.gle g fun a ha => hn a (.inr ha), h6⟩
  | _ => exact Rep.gle g h
theorem OwR.heap (hh : ∀ a, OwA d v a → H' a = H a) (h : OwR K G H d v) : OwR K G H' d v := by
  cases d with
  | lst ds =>
    obtain ⟨p, xs, rfl, h1, h2⟩ := h
    exact ⟨p, xs, rfl, (hh p rfl).trans h1, h2⟩
  | dct ds =>
    obtain ⟨p, xs, rfl, h1, h2⟩ := h
    exact ⟨p, xs, rfl, (hh p rfl).trans h1, h2⟩
  | box k fs =>
    obtain ⟨p, xs, o, rfl, h1, h2, h3, h4, h5, h6⟩ := h
    exact ⟨p, xs, o, rfl, (hh p (.inl rfl)).trans h1, h2, h3, h4, h5.heap fun a ha => hh a (.inr ha), h6⟩
  | _ => exact h
theorem OwR.there (h : OwR K G H d v) (ha : OwA d v a) : H a ≠ none ∧ G a = none := by
  cases d with
  | lst ds =>
    obtain ⟨p, xs, rfl, h1, h2, _⟩ := h
    cases ha; exact ⟨by rw [h1]; simp, h2⟩
  | dct ds =>
    obtain ⟨p, xs, rfl, h1, h2, _⟩ := h
    cases ha; exact ⟨by rw [h1]; simp, h2⟩
  | box k fs =>
    obtain ⟨p, xs, o, rfl, h1, h2, h3, h4, h5, h6⟩ := h
    rcases ha with rfl | ha
    · exact ⟨by rw [h1]; simp, h3⟩
    · exact h5.there ha
  | _ => cases ha
theorem SlR.there {i : Nat} {s : Sv} {x : Option (Option V)} (h : SlR K F G H i s x) (ha : Owns s x a) : H a ≠ none ∧ G a = none := by
  cases s with
  | un => cases ha
  | sh d => cases ha
  | ow d => obtain ⟨v, rfl, h1, h2⟩ := h; exact h1.there ha
  | io d => obtain ⟨v, rfl, h1, h2⟩ := h; exact h1.there ha
theorem SlR.gle {i : Nat} {s : Sv} {x : Option (Option V)} (g : Gle G G') (hn : ∀ a, Owns s x a → G' a = none) (h : SlR K F G H i s x) : SlR K F G' H i s x := by
  cases s with
  | un => trivial
  | sh d => obtain ⟨v, rfl, h1⟩ := h; exact ⟨v, rfl, h1.gle g⟩
  | ow d => obtain ⟨v, rfl, h1, h2⟩ := h; exact ⟨v, rfl, h1.gle g hn, h2⟩
  | io d => obtain ⟨v, rfl, h1, h2⟩ := h; exact ⟨v, rfl, h1.gle g hn, h2⟩
theorem SlR.heap {i : Nat} {s : Sv} {x : Option (Option V)} (hh : ∀ a, Owns s x a → H' a = H a) (h : SlR K F G H i s x) : SlR K F G H' i s x := by
  cases s with
  | un => trivial
  | sh d => exact h
  | ow d => obtain ⟨v, rfl, h1, h2⟩ := h; exact ⟨v, rfl, h1.heap hh, h2⟩
  | io d => obtain ⟨v, rfl, h1, h2⟩ := h; exact ⟨v, rfl, h1.heap hh, h2⟩
theorem Ok.fnone (k : Ok K F env σ G H) (h : H a = none) : F.H a = none := by
  cases e : F.H a with
  | none => rfl
  | some o =>
    by_cases w : F.W a
    · exact absurd h (k.wH a w)
    · rw [k.keep a o e w] at h; cases h
theorem Ok.notW (k : Ok K F env σ G H) (h : G a ≠ none) : ¬ F.W a := fun w => h (k.new a (k.wf a w).1 (k.wf a w).2)
theorem Ok.gnone (k : Ok K F env σ G H) (h : H a = none) : G a = none := by
  cases e : G a with
  | none => rfl
  | some o => rcases k.sub a o e with q | ⟨_, _, q⟩ <;> (rw [h] at q; cases q)
theorem Sub.upd (s : Sub G H) (h : G p = none) : Sub G (upd H p o) := fun a u e => by
  have hne : a ≠ p := fun z => by subst z; rw [h] at e; cases e
  rw [upd_ne hne]; exact s a u e
/-- a new object, in nobody's hand yet -/
theorem Ok.alloc (k : Ok K F env σ G H) (h : H p = none) : Ok K F env σ G (upd H p o) where
  sub := k.sub.upd (k.gnone h)
  g0 := k.g0
  keep := fun a u e w => by
    have hne : a ≠ p := fun z => by subst z; rw [k.fnone h] at e; cases e
    rw [upd_ne hne]; exact k.keep a u e w
  new := k.new
  wH := fun a w => by
    by_cases z : a = p
    · subst z; rw [upd_same]; simp
    · rw [upd_ne z]; exact k.wH a w
  wf := k.wf
  len := k.len
  slot := fun i s e => (k.slot i s e).heap fun a ha => by
    have := ((k.slot i s e).there ha).1
    rw [upd_ne (fun z => this (by rw [z]; exact h))]
  sep := k.sep
/-- a known object becomes shared -/
theorem Ok.share (k : Ok K F env σ G H) (hG : G p = none) (hF : F.H p = none) (hH : H p = some o) (hn : ∀ (i : Nat) (s : Sv), env[i]? = some s → ¬ Owns s (σ[i]?) p) : Ok K F env σ (upd G p o) H where
  sub := fun a u e => by
    by_cases z : a = p
    · subst z; rw [upd_same] at e; cases e; exact .inl hH
    · rw [upd_ne z] at e; exact k.sub a u e
  g0 := k.g0.trans (Gle.upd hG)
  keep := k.keep
  new := fun a e1 e2 => by
    rw [upd_ne (fun z => e1 (by rw [z]; exact hF))]; exact k.new a e1 e2
  wH := k.wH
  wf := k.wf
  len := k.len
  slot := fun i s e => (k.slot i s e).gle (Gle.upd hG) fun a ha => by
    rw [upd_ne (fun z : a = p => hn i s e (by rw [← z]; exact ha))]
    exact ((k.slot i s e).there ha).2
  sep := k.sep
theorem Ok.notOwned (k : Ok K F env σ G H) (h : H p = none) : ∀ (i : Nat) (s : Sv), env[i]? = some s → ¬ Owns s (σ[i]?) p := fun i s e ha => ((k.slot i s e).there ha).1 h
/-- a new shared object -/
theorem Ok.laid (k : Ok K F env σ G H) (h : H p = none) : Ok K F env σ (upd G p o) (upd H p o) :=
  (k.alloc (o := o) h).share (k.gnone h) (k.fnone h) upd_same fun i s e => k.notOwned h i s e
/-- the i-th slot is set -/
theorem Ok.put {i : Nat} {s : Sv} (k : Ok K F env σ G H) (hs : SlR K F G H i s (some (some v))) (hn : ∀ a, Owns s (some (some v)) a → ∀ (j : Nat) (t : Sv), j ≠ i → env[j]? = some t → ¬ Owns t (σ[j]?) a) : Ok K F (env.set i s) (σ.set i (some v)) G H where
  sub := k.sub
  g0 := k.g0
  keep := k.keep
  new := k.new
  wH := k.wH
  wf := k.wf
  len := by simp [k.len]
  slot := fun j t e => by
    by_cases z : j = i
    · subst z
      have hj : j < env.length := by have := (List.getElem?_eq_some_iff.mp e).1; simpa using this
      rw [List.getElem?_set_self hj] at e; cases e
      rw [List.getElem?_set_self (by rw [← k.len]; exact hj)]; exact hs
    · rw [List.getElem?_set_ne (Ne.symm z)] at e ⊢; exact k.slot j t e
  sep := fun j l s1 t1 a e1 e2 hjl h1 h2 => by
    by_cases z : j = i
    · subst z
      have hj : j < env.length := by have := (List.getElem?_eq_some_iff.mp e1).1; simpa using this
      rw [List.getElem?_set_self hj] at e1; cases e1
      rw [List.getElem?_set_self (by rw [← k.len]; exact hj)] at h1
      rw [List.getElem?_set_ne hjl] at e2 h2
      exact hn a h1 l t1 (Ne.symm hjl) e2 h2
    · rw [List.getElem?_set_ne (Ne.symm z)] at e1 h1
      by_cases y : l = i
      · subst y
        have hj : l < env.length := by have := (List.getElem?_eq_some_iff.mp e2).1; simpa using this
        rw [List.getElem?_set_self hj] at e2; cases e2
        rw [List.getElem?_set_self (by rw [← k.len]; exact hj)] at h2
        exact hn a h2 j s1 hjl e1 h1
      · rw [List.getElem?_set_ne (Ne.symm y)] at e2 h2
        exact k.sep j l s1 t1 a e1 e2 hjl h1 h2
/-- a slot's word is changed, its value stays -/
theorem Ok.reword {i : Nat} {s t : Sv} (k : Ok K F env σ G H) (he : env[i]? = some s) (ht : SlR K F G H i t σ[i]?) (ho : ∀ a, Owns t σ[i]? a → Owns s σ[i]? a) : Ok K F (env.set i t) σ G H where
  sub := k.sub
  g0 := k.g0
  keep := k.keep
  new := k.new
  wH := k.wH
  wf := k.wf
  len := by simp [k.len]
  slot := fun j u e => by
    by_cases z : j = i
    · subst z
      have hj : j < env.length := by have := (List.getElem?_eq_some_iff.mp e).1; simpa using this
      rw [List.getElem?_set_self hj] at e; cases e; exact ht
    · rw [List.getElem?_set_ne (Ne.symm z)] at e; exact k.slot j u e
  sep := fun j l s1 t1 a e1 e2 hjl h1 h2 => by
    have fix : ∀ {j : Nat} {s1 : Sv}, (env.set i t)[j]? = some s1 → Owns s1 σ[j]? a → ∃ s2, env[j]? = some s2 ∧ Owns s2 σ[j]? a := fun {j s1} e h => by
      by_cases z : j = i
      · subst z
        have hj : j < env.length := by have := (List.getElem?_eq_some_iff.mp e).1; simpa using this
        rw [List.getElem?_set_self hj] at e; cases e; exact ⟨s, he, ho a h⟩
      · rw [List.getElem?_set_ne (Ne.symm z)] at e; exact ⟨s1, e, h⟩
    obtain ⟨s2, e1', h1'⟩ := fix e1 h1
    obtain ⟨t2, e2', h2'⟩ := fix e2 h2
    exact k.sep j l s2 t2 a e1' e2' hjl h1' h2'
/-- the owned object of slot i is changed -/
theorem Ok.change {i : Nat} {s t : Sv} (k : Ok K F env σ G H) (he : env[i]? = some s) (hp : Owns s σ[i]? p) (ht : SlR K F G (upd H p o) i t σ[i]?) (ho : ∀ a, Owns t σ[i]? a → Owns s σ[i]? a) : Ok K F (env.set i t) σ G (upd H p o) := by
  have hpn := (k.slot i s he).there hp
  have hk : Ok K F (env.set i .un) σ G H := k.reword he trivial fun a h => by cases h
  have hF : ∀ u, F.H p = some u → F.W p := fun u e => by
    have h := k.slot i s he
    cases s with
    | un => cases hp
    | sh d => cases hp
    | ow d => obtain ⟨v, e1, h1, h2⟩ := h; rw [e1] at hp; rw [h2 p hp] at e; cases e
    | io d => obtain ⟨v, e1, h1, h2, _⟩ := h; rw [e1] at hp; exact h2 p hp
  have hi : i < env.length := (List.getElem?_eq_some_iff.mp he).1
  have hother : ∀ (j : Nat) (u : Sv), (env.set i .un)[j]? = some u → ∀ a, Owns u (σ[j]?) a → a ≠ p := fun j u e a ha z => by
    subst z
    by_cases y : j = i
    · subst y; rw [List.getElem?_set_self hi] at e; cases e; cases ha
    · rw [List.getElem?_set_ne (Ne.symm y)] at e
      exact k.sep i j s u a he e (Ne.symm y) hp ha
  have hk2 : Ok K F (env.set i .un) σ G (upd H p o) :=
    { sub := hk.sub.upd hpn.2, g0 := hk.g0, keep := fun a u e w => by
        have hne : a ≠ p := fun z => by subst z; exact w (hF u e)
        rw [upd_ne hne]; exact hk.keep a u e w
      new := hk.new, wH := fun a w => by
        by_cases z : a = p
        · subst z; rw [upd_same]; simp
        · rw [upd_ne z]; exact hk.wH a w
      wf := hk.wf, len := hk.len, slot := fun j u e => (hk.slot j u e).heap fun a ha => by rw [upd_ne (hother j u e a ha)]
      sep := hk.sep }
  have e2 : (env.set i .un).set i t = env.set i t := by simp
  rw [← e2]
  refine
    { sub := hk2.sub, g0 := hk2.g0, keep := hk2.keep, new := hk2.new, wH := hk2.wH, wf := hk2.wf, len := by simp [k.len], slot := fun j u e => ?_, sep := fun j l s1 t1 a e1 e2 hjl h1 h2 => ?_ }
  · by_cases z : j = i
    · subst z
      rw [List.getElem?_set_self (by simpa using hi)] at e; cases e; exact ht
    · rw [List.getElem?_set_ne (Ne.symm z)] at e; exact hk2.slot j u e
  · have fix : ∀ {j : Nat} {s1 : Sv}, ((env.set i .un).set i t)[j]? = some s1 → Owns s1 σ[j]? a → ∃ s2, env[j]? = some s2 ∧ Owns s2 σ[j]? a := fun {j s1} e h => by
      by_cases z : j = i
      · subst z
        rw [List.getElem?_set_self (by simpa using hi)] at e; cases e; exact ⟨s, he, ho a h⟩
      · rw [List.getElem?_set_ne (Ne.symm z), List.getElem?_set_ne (Ne.symm z)] at e; exact ⟨s1, e, h⟩
    obtain ⟨s2, e1', h1'⟩ := fix e1 h1
    obtain ⟨t2, e2', h2'⟩ := fix e2 h2
    exact k.sep j l s2 t2 a e1' e2' hjl h1' h2'
/-- an owned thing, shared from now on -/
theorem OwR.shared (h : OwR K G H d v) (hins : ∀ C fs, d ≠ .box C fs) : ∃ G', Gle G G' ∧ Rep K G' d v ∧ ((G' = G ∧ ∀ a, ¬ OwA d v a) ∨ ∃ p o, OwA d v p ∧ H p = some o ∧ G p = none ∧ G' = upd G p o) := by
  cases d with
  | lst ds =>
    obtain ⟨p, xs, rfl, h1, h2, h3, h4⟩ := h
    refine ⟨upd G p (.lst xs), Gle.upd h2, ?_, .inr ⟨p, _, rfl, h1, h2, rfl⟩⟩
    simp only [Rep]; exact ⟨p, xs, rfl, upd_same, h3, h4.gle (Gle.upd h2)⟩
  | dct ds =>
    obtain ⟨p, xs, rfl, h1, h2, h3, h4⟩ := h
    refine ⟨upd G p (.dK xs), Gle.upd h2, ?_, .inr ⟨p, _, rfl, h1, h2, rfl⟩⟩
    simp only [Rep]; exact ⟨p, xs, rfl, upd_same, h3, h4.gle (Gle.upd h2)⟩
  | box C fs => exact absurd rfl (hins C fs)
  | _ => exact ⟨G, Gle.refl G, h, .inl ⟨rfl, fun a h => by cases h⟩⟩
end
def isIns : D → Bool
  | .box _ _ => true
  | _ => false
theorem isIns_no {d : D} (h : isIns d = false) : ∀ C fs, d ≠ .box C fs := fun C fs e => by subst e; cases h
/-- what an expression gives: shared, or new and in nobody's hand -/
def RO (K : PySem.W.Frag) (F : FrD) (env : En) (σ : L2.St) (G H : Hp) : Sv → V → Prop
  | .sh d, v => Rep K G d v
  | .ow d, v => OwR K G H d v ∧ ∀ a, OwA d v a → F.H a = none ∧ ∀ (i : Nat) (s : Sv), env[i]? = some s → ¬ Owns s (σ[i]?) a
  | _, _ => False
section
variable {K : PySem.W.Frag} {F : FrD} {env : En} {σ : L2.St} {G H G' H' : Hp} {d d' : D} {v : V} {p a : Addr} {o : HO} {r : Sv}
theorem RO.shared (k : Ok K F env σ G H) (h : RO K F env σ G H r v) (hi : isIns r.d = false) : ∃ G', Gle G G' ∧ Ok K F env σ G' H ∧ Rep K G' r.d v := by
  cases r with
  | un => cases h
  | io d => cases h
  | sh d => exact ⟨G, Gle.refl G, k, h⟩
  | ow d =>
    obtain ⟨h1, h2⟩ := h
    obtain ⟨G', g, rp, ⟨rfl, hx⟩ | ⟨p, o, hp, hH, hG, rfl⟩⟩ := h1.shared (isIns_no hi)
    · exact ⟨_, g, k, rp⟩
    · exact ⟨_, g, k.share hG (h2 p hp).1 hH (h2 p hp).2, rp⟩
/-- slot i, owned, is shared from now on -/
theorem Ok.release {i : Nat} (k : Ok K F env σ G H) (he : env[i]? = some (.ow d)) (hi : isIns d = false) : ∃ G' v, Gle G G' ∧ σ[i]? = some (some v) ∧ Ok K F (env.set i (.sh d)) σ G' H ∧ Rep K G' d v := by
  obtain ⟨v, ev, h1, h2⟩ := k.slot i _ he
  obtain ⟨G', g, rp, ⟨rfl, hx⟩ | ⟨p, o, hp, hH, hG, rfl⟩⟩ := h1.shared (isIns_no hi)
  · exact ⟨_, v, g, ev, k.reword he ⟨v, ev, rp⟩ (fun a h => by cases h), rp⟩
  · have k1 : Ok K F (env.set i .un) σ G H := k.reword he trivial fun a h => by cases h
    have hl : i < env.length := (List.getElem?_eq_some_iff.mp he).1
    have k2 : Ok K F (env.set i .un) σ (upd G p o) H := k1.share hG (h2 p hp) hH fun j s e ha => by
      by_cases y : j = i
      · subst y; rw [List.getElem?_set_self hl] at e; cases e; cases ha
      · rw [List.getElem?_set_ne (Ne.symm y)] at e
        refine k.sep i j _ s p he e (Ne.symm y) ?_ ha
        rw [ev]; exact hp
    have k3 := k2.reword (i := i) (s := .un) (t := .sh d) (by rw [List.getElem?_set_self hl]) ⟨v, ev, rp⟩ (fun a h => by cases h)
    rw [List.set_set] at k3
    exact ⟨_, v, g, ev, k3, rp⟩
end
end VL
set_option linter.all false
set_option maxRecDepth 100000
set_option maxHeartbeats 4000000
namespace VL
open PySem PySem.Spec PyProof.Rows L2

abbrev XQ := Str → List (Str × D) → En → Prop
abbrev VTE := En → (D → En → Prop) → XQ → Prop
abbrev VTO := En → (Sv → En → Prop) → XQ → Prop
abbrev VTT := En → (Bool → En → Prop) → XQ → Prop
/-- a thing to be looked at: a value, or what a slot holds -/
inductive Br where
  | val (d : D) | slot (i : Nat)
abbrev VTB := En → (Br → En → Prop) → XQ → Prop
abbrev VTA := En → (List Br → En → Prop) → XQ → Prop
def Br.get (env : En) : Br → Option D
  | .val d => some d
  | .slot i => rd env i
def BR (K : PySem.W.Frag) (G : Hp) (σ : L2.St) : Br → V → Prop
  | .val d, v => Rep K G d v
  | .slot i, v => σ[i]? = some (some v)
/-- what may be read: shared, or owned -/
def RdR (K : PySem.W.Frag) (G H : Hp) (d : D) (v : V) : Prop := Rep K G d v ∨ OwR K G H d v
/-- an exception in the air -/
def XRep (K : PySem.W.Frag) (F : FrD) (G H : Hp) (C : Str) (fs : List (Str × D)) (cls : Value) (d : Option Addr) : Prop :=
  cls = .ref (He.ga K C) ∧ ((d = none ∧ fs = []) ∨ ∃ dd ys, d = some dd ∧ H dd = some (.xd ys) ∧ Repf K G fs ys ∧ G dd = none ∧ F.H dd = none)
def XOk (K : PySem.W.Frag) (F : FrD) (W : WX) (E : XQ) : Prop :=
  ∀ C fs env σ G H, Ok K F env σ G H → E C fs env → ∀ cls d, XRep K F G H C fs cls d → W cls d σ H
def SndE (K : PySem.W.Frag) (W : WX) (te : TE) (t : VTE) : Prop :=
  ∀ F env σ G H Q E Qh, Ok K F env σ G H → XOk K F W E → t env Q E → (∀ d env' v G' H', Ok K F env' σ G' H' → Gle G G' → Rep K G' d v → Q d env' → Qh v H') → te σ H Qh
def SndO (K : PySem.W.Frag) (W : WX) (te : TE) (t : VTO) : Prop :=
  ∀ F env σ G H Q E Qh, Ok K F env σ G H → XOk K F W E → t env Q E → (∀ r env' v G' H', Ok K F env' σ G' H' → Gle G G' → RO K F env' σ G' H' r v → Q r env' → Qh v H') → te σ H Qh
def SndB (K : PySem.W.Frag) (W : WX) (te : TE) (t : VTB) : Prop :=
  ∀ F env σ G H Q E Qh, Ok K F env σ G H → XOk K F W E → t env Q E → (∀ b env' v G' H', Ok K F env' σ G' H' → Gle G G' → BR K G' σ b v → Q b env' → Qh v H') → te σ H Qh
def SndT (K : PySem.W.Frag) (W : WX) (te : TT) (t : VTT) : Prop :=
  ∀ F env σ G H Q E Qh, Ok K F env σ G H → XOk K F W E → t env Q E → (∀ b env' G' H', Ok K F env' σ G' H' → Gle G G' → Q b env' → Qh b H') → te σ H Qh
def SndA (K : PySem.W.Frag) (W : WX) (te : TA) (t : VTA) : Prop :=
  ∀ F env σ G H Q E Qh, Ok K F env σ G H → XOk K F W E → t env Q E → (∀ bs env' vs G' H', Ok K F env' σ G' H' → Gle G G' → Paired (BR K G' σ) bs vs → Q bs env' → Qh vs H') → te σ H Qh
structure VE (X : Cx) (W : WX) (e : Expr) (t : VTE) : Prop where
  ex : ∃ te, PE X e te ∧ SndE X.K W te t
structure VO (X : Cx) (W : WX) (e : Expr) (t : VTO) : Prop where
  ex : ∃ te, PE X e te ∧ SndO X.K W te t
structure VB (X : Cx) (W : WX) (e : Expr) (t : VTB) : Prop where
  ex : ∃ te, PE X e te ∧ SndB X.K W te t
structure VT (X : Cx) (W : WX) (e : Expr) (t : VTT) : Prop where
  ex : ∃ te, PT X e te ∧ SndT X.K W te t
structure VA (X : Cx) (W : WX) (es : List Expr) (t : VTA) : Prop where
  ex : ∃ te, PA X es te ∧ SndA X.K W te t
theorem tracedN {h B : Heap} {a : Addr} {Z Z' : Obj → Prop} {fl : Value} (z : ∀ o, Z o → Z' o) (x : HandSPX.TracedZ h B a Z fl) : HandSPX.TracedZ h B a Z' fl := by
  obtain ⟨oe, vs, T, oT, ts, he, hz, r⟩ := x
  exact ⟨oe, vs, T, oT, ts, he, z _ hz, r⟩
theorem skyN {B : Heap} {l : List Env} {a : Addr} {cls : Value} {d : Option Addr} {L : Addr} {h : Heap} (x : Sky B l a (L2N.Zn cls d) L h) : Sky B l a (Zc cls d) L h := by
  rcases x with ⟨hB, hn, hl, oe, vs, he, hz, hd, h1⟩ | fl | hh
  · exact .inl ⟨hB, hn, hl, oe, vs, he, hz.zc, hd, h1⟩
  · exact .inr (.inl ⟨fl.1, fl.2.1, fl.2.2.1, tracedN (fun o z => z.zc) fl.2.2.2⟩)
  · exact .inr (.inr ⟨hh.1, hh.2.1, hh.2.2.1, tracedN (fun o z => z.zc) hh.2.2.2⟩)
/-- where one stands -/
structure VC (X : Cx) (W : WX) (k : Nat) : Prop where
  calm : X.calm = true
  tk : L2N.Takes X W
  po : PassesOwn (model X.prog X.w) X.A X.env X.xe
  hr : Room k X.A
  nd : X.N.Nodup
/-- .. where any exception may pass through -/
structure VCw (X : Cx) (W : WX) (k : Nat) : Prop extends VC X W k where
  tkw : L2.Takes X W
  pa : ∀ hd : Option Value, PassesOwnAt (model X.prog X.w) (X.A.mark hd) X.A X.env X.xe
theorem takesN {X : Cx} {W : WX} (t : L2.Takes X W) : L2N.Takes X W := fun u s' ⟨a, B, sI, pins, σ, H, cls, d, e, I, nb, up, sky, na, os, ag, w⟩ =>
  t u s' ⟨a, B, sI, pins, σ, H, cls, d, e, I, nb, up, skyN sky, na, os, ag, w⟩
theorem takes0N {X : Cx} : L2N.Takes X (fun _ _ _ _ => False) := fun _ _ x => by
  obtain ⟨_, _, _, _, _, _, _, _, _, _, _, _, _, _, _, _, z⟩ := x
  exact z.elim

section
variable {X : Cx} {W : WX} {k : Nat} {K : PySem.W.Frag} {F : FrD} {env : En} {σ : L2.St} {G H G' H' : Hp} {d : D} {v : V} {b : Br}
theorem BR.gle (g : Gle G G') (h : BR K G σ b v) : BR K G' σ b v := by
  cases b with
  | val d => exact Rep.gle g h
  | slot i => exact h
theorem rd_some {i : Nat} (h : rd env i = some d) : env[i]? = some (.sh d) ∨ env[i]? = some (.ow d) ∨ env[i]? = some (.io d) := by
  unfold rd at h
  cases e : env[i]? with
  | none => rw [e] at h; cases h
  | some s =>
    rw [e] at h
    cases s with
    | un => cases h
    | sh c => cases h; exact .inl rfl
    | ow c => cases h; exact .inr (.inl rfl)
    | io c => cases h; exact .inr (.inr rfl)
theorem Ok.read (k : Ok K F env σ G H) (h : b.get env = some d) (r : BR K G σ b v) : RdR K G H d v := by
  cases b with
  | val c => cases h; exact .inl r
  | slot i =>
    have r' : σ[i]? = some (some v) := r
    rcases rd_some h with e | e | e
    · obtain ⟨u, e2, q⟩ := k.slot i _ e; rw [r'] at e2; cases e2; exact .inl q
    · obtain ⟨u, e2, q, _⟩ := k.slot i _ e; rw [r'] at e2; cases e2; exact .inr q
    · obtain ⟨u, e2, q, _⟩ := k.slot i _ e; rw [r'] at e2; cases e2; exact .inr q

/-! ### from one judgement to another -/
def oE (t : VTO) : VTE := fun env Q E => t env (fun r env' => isIns r.d = false ∧ Q r.d env') E
theorem VO.e {e : Expr} {t : VTO} (h : VO X W e t) : VE X W e (oE t) := by
  obtain ⟨te, p, s⟩ := h.ex
  refine ⟨te, p, fun F env σ G H Q E Qh k xo ht q => s F env σ G H _ E Qh k xo ht fun r env' v G' H' k' g ro ⟨hi, hq⟩ => ?_⟩
  obtain ⟨G2, g2, k2, rp⟩ := ro.shared k' hi
  exact q r.d env' v G2 H' k2 (g.trans g2) rp hq
def eO (t : VTE) : VTO := fun env Q E => t env (fun d env' => Q (.sh d) env') E
theorem VE.o {e : Expr} {t : VTE} (h : VE X W e t) : VO X W e (eO t) := by
  obtain ⟨te, p, s⟩ := h.ex
  exact ⟨te, p, fun F env σ G H Q E Qh k xo ht q => s F env σ G H _ E Qh k xo ht fun d env' v G' H' k' g rp hq => q (.sh d) env' v G' H' k' g rp hq⟩
def eB (t : VTE) : VTB := fun env Q E => t env (fun d env' => Q (.val d) env') E
theorem VE.br {e : Expr} {t : VTE} (h : VE X W e t) : VB X W e (eB t) := by
  obtain ⟨te, p, s⟩ := h.ex
  exact ⟨te, p, fun F env σ G H Q E Qh k xo ht q => s F env σ G H _ E Qh k xo ht fun d env' v G' H' k' g rp hq => q (.val d) env' v G' H' k' g rp hq⟩
theorem VO.br {e : Expr} {t : VTO} (h : VO X W e t) : VB X W e (eB (oE t)) := h.e.br

/-! ### names, constants -/
def vC (d : D) : VTE := fun env Q _ => Q d env
theorem rep_int {i : Int} : Rep K G (.int i) (.int i) := by simp [Rep]
theorem rep_bl {i : Bool} : Rep K G (.bl i) (.bl i) := by simp [Rep]
theorem rep_blv {i : Bool} (h : Rep K G (.bl i) v) : v = .bl i := by simpa [Rep] using h
theorem rep_non : Rep K G .non .non := by simp [Rep]
theorem rep_str {z : Str} (h : z.length ≤ sizeLine) : Rep K G (.str z) (.str z) := by simp [Rep, h]
theorem ve_int {i j pos} : VE X W (.Constant (.int i) j pos) (vC (.int i)) := ⟨_, pe_int, fun F env σ G H Q E Qh k xo ht q => q _ _ _ _ _ k (Gle.refl _) rep_int ht⟩
theorem ve_bl {b j pos} : VE X W (.Constant (.bool b) j pos) (vC (.bl b)) := ⟨_, pe_bl, fun F env σ G H Q E Qh k xo ht q => q _ _ _ _ _ k (Gle.refl _) rep_bl ht⟩
theorem ve_non {j pos} : VE X W (.Constant .none j pos) (vC .non) := ⟨_, pe_non, fun F env σ G H Q E Qh k xo ht q => q _ _ _ _ _ k (Gle.refl _) rep_non ht⟩
theorem ve_str {z j pos} (hz : z.length ≤ sizeLine := by decide +kernel) : VE X W (.Constant (.str z) j pos) (vC (.str z)) := ⟨_, pe_str, fun F env σ G H Q E Qh k xo ht q => q _ _ _ _ _ k (Gle.refl _) (rep_str hz) ht⟩
/-- a name, given away -/
def vVar (i : Nat) : VTE := fun env Q _ => match env[i]? with
  | some (.sh d) => Q d env
  | some (.ow d) => isIns d = false ∧ Q d (env.set i (.sh d))
  | _ => False
theorem ve_var {i : Nat} {x : Str} {pos : Pos} (p : PE X (.Name x pos) (tVar i)) : VE X W (.Name x pos) (vVar i) := by
  refine ⟨_, p, fun F env σ G H Q E Qh k xo ht q => ?_⟩
  unfold vVar at ht
  cases e : env[i]? with
  | none => rw [e] at ht; exact ht.elim
  | some s =>
    rw [e] at ht
    cases s with
    | un => exact ht.elim
    | io d => exact ht.elim
    | sh d =>
      obtain ⟨v, e2, r⟩ := k.slot i _ e
      exact ⟨v, e2, q d env v G H k (Gle.refl _) r ht⟩
    | ow d =>
      obtain ⟨hi, ht⟩ := ht
      obtain ⟨G2, v, g, e2, k2, r⟩ := k.release e hi
      exact ⟨v, e2, q d _ v G2 H k2 g r ht⟩
/-- a name, looked at -/
def bVar (i : Nat) : VTB := fun env Q _ => (rd env i).isSome = true ∧ Q (.slot i) env
theorem vb_var {i : Nat} {x : Str} {pos : Pos} (p : PE X (.Name x pos) (tVar i)) : VB X W (.Name x pos) (bVar i) := by
  refine ⟨_, p, fun F env σ G H Q E Qh k xo ht q => ?_⟩
  obtain ⟨hs, ht⟩ := ht
  obtain ⟨d, hd⟩ := Option.isSome_iff_exists.mp hs
  have : ∃ v, σ[i]? = some (some v) := by
    rcases rd_some hd with e | e | e
    · obtain ⟨u, e2, _⟩ := k.slot i _ e; exact ⟨u, e2⟩
    · obtain ⟨u, e2, _⟩ := k.slot i _ e; exact ⟨u, e2⟩
    · obtain ⟨u, e2, _⟩ := k.slot i _ e; exact ⟨u, e2⟩
  obtain ⟨v, e⟩ := this
  exact ⟨v, e, q (.slot i) env v G H k (Gle.refl _) e ht⟩
/-- a module's constant: an int, a text -/
theorem ve_gint {x : Str} {i : Int} {pos : Pos} (hg : Gl X x) (hm : ∃ t, X.mg x = some (.int i t)) (hd : (x == ("__debug__" : Str)) = false := by decide) : VE X W (.Name x pos) (vC (.int i)) := by
  obtain ⟨t, hm⟩ := hm
  exact ⟨_, pe_glob (v := .int i) hg hm ⟨t, rfl⟩ hd, fun F env σ G H Q E Qh k xo ht q => q _ _ _ _ _ k (Gle.refl _) rep_int ht⟩
theorem ve_gstr {x : Str} {z : Str} {pos : Pos} (hg : Gl X x) (hm : ∃ t, X.mg x = some (.str z t)) (hz : z.length ≤ sizeLine := by decide +kernel) (hd : (x == ("__debug__" : Str)) = false := by decide) : VE X W (.Name x pos) (vC (.str z)) := by
  obtain ⟨t, hm⟩ := hm
  exact ⟨_, pe_glob (v := .str z) hg hm ⟨t, rfl⟩ hd, fun F env σ G H Q E Qh k xo ht q => q _ _ _ _ _ k (Gle.refl _) (rep_str hz) ht⟩

/-! ### lists of arguments -/
def aNil : VTA := fun env Q _ => Q [] env
def aCons (t : VTB) (u : VTA) : VTA := fun env Q E => t env (fun b env1 => u env1 (fun bs env2 => Q (b :: bs) env2) E) E
theorem va_nil : VA X W [] aNil := ⟨_, pa_nil, fun F env σ G H Q E Qh k xo ht q => q [] env [] G H k (Gle.refl _) .nil ht⟩
theorem va_cons {e : Expr} {es : List Expr} {t : VTB} {u : VTA} (h : VB X W e t) (r : VA X W es u) (hs : starEach (e :: es) X.env = (false, eval e X.env) :: starEach es X.env := by rfl) : VA X W (e :: es) (aCons t u) := by
  obtain ⟨te, p, s⟩ := h.ex
  obtain ⟨tr, pr, sr⟩ := r.ex
  refine ⟨_, pa_cons p pr hs, fun F env σ G H Q E Qh k xo ht q => ?_⟩
  refine s F env σ G H _ E _ k xo ht fun b env1 v G1 H1 k1 g1 r1 ht1 => ?_
  refine sr F env1 σ G1 H1 _ E _ k1 xo ht1 fun bs env2 vs G2 H2 k2 g2 r2 ht2 => ?_
  exact q (b :: bs) env2 (v :: vs) G2 H2 k2 (g1.trans g2) (.cons (r1.gle g2) r2) ht2
/-- all that is given, read -/
def gets (env : En) : List Br → Option (List D)
  | [] => some []
  | b :: bs => (b.get env).bind fun d => (gets env bs).map fun ds => d :: ds
theorem Ok.reads (k : Ok K F env σ G H) : ∀ {bs : List Br} {vs : List V} {ds : List D}, Paired (BR K G σ) bs vs → gets env bs = some ds → Paired (fun v d => RdR K G H d v) vs ds
  | [], _, _, .nil, e => by cases e; exact .nil
  | b :: bs, _, ds, .cons r t, e => by
    unfold gets at e
    cases e1 : b.get env with
    | none => rw [e1] at e; cases e
    | some d =>
      rw [e1] at e
      cases e2 : gets env bs with
      | none => rw [e2] at e; cases e
      | some es =>
        rw [e2] at e; cases e
        exact .cons (k.read e1 r) (k.reads t e2)

/-! ### operations on values -/
/-- an operation on two values, by what it gives -/
def OpSnd (K : PySem.W.Frag) (r : R2) (f : D → D → Option Sv) : Prop :=
  ∀ F env σ G H x y vx vy res (Qh : VK), Ok K F env σ G H → RdR K G H x vx → RdR K G H y vy → f x y = some res →
    (∀ v G' H', Ok K F env σ G' H' → Gle G G' → RO K F env σ G' H' res v → Qh v H') → r vx vy H Qh
def oOp (f : D → D → Option Sv) (ta tb : VTB) : VTO := fun env Q E => ta env (fun a env1 => tb env1 (fun b env2 => ∃ x y r, a.get env2 = some x ∧ b.get env2 = some y ∧ f x y = some r ∧ Q r env2) E) E
theorem snd_op {r : R2} {f : D → D → Option Sv} {pa pb : TE} {ta tb : VTB} (ho : OpSnd K r f) (ha : SndB K W pa ta) (hb : SndB K W pb tb) : SndO K W (tOp r pa pb) (oOp f ta tb) := by
  intro F env σ G H Q E Qh k xo ht q
  refine ha F env σ G H _ E _ k xo ht fun a env1 v1 G1 H1 k1 g1 r1 ht1 => ?_
  refine hb F env1 σ G1 H1 _ E _ k1 xo ht1 fun b env2 v2 G2 H2 k2 g2 r2 ⟨x, y, res, ex, ey, er, hq⟩ => ?_
  exact ho F env2 σ G2 H2 x y v1 v2 res Qh k2 (k2.read ex (r1.gle g2)) (k2.read ey r2) er fun v G3 H3 k3 g3 ro => q res env2 v G3 H3 k3 ((g1.trans g2).trans g3) ro hq
theorem vo_op {op : Operator} {a b : Expr} {pos : Pos} {r : R2} {f : D → D → Option Sv} {ta tb : VTB} (hr : OpR X (binaryOp op) r) (ho : OpSnd X.K r f) (ha : VB X W a ta) (hb : VB X W b tb) : VO X W (.BinOp a op b pos) (oOp f ta tb) := by
  obtain ⟨pa, p1, s1⟩ := ha.ex
  obtain ⟨pb, p2, s2⟩ := hb.ex
  exact ⟨_, pe_op hr p1 p2, snd_op ho s1 s2⟩
theorem vo_cmp {op : CmpOp} {a b : Expr} {pos : Pos} {r : R2} {f : D → D → Option Sv} {ta tb : VTB} (hr : OpR X (compareOp op) r) (ho : OpSnd X.K r f) (ha : VB X W a ta) (hb : VB X W b tb) (hm : behindInMarks op b = false) : VO X W (.Compare a [op] [b] pos) (oOp f ta tb) := by
  obtain ⟨pa, p1, s1⟩ := ha.ex
  obtain ⟨pb, p2, s2⟩ := hb.ex
  exact ⟨_, pe_cmpR hr p1 p2 hm, snd_op ho s1 s2⟩
theorem vo_ix {a b : Expr} {pos : Pos} {r : R2} {f : D → D → Option Sv} {ta tb : VTB} (hr : IxR X r) (ho : OpSnd X.K r f) (ha : VB X W a ta) (hb : VB X W b tb) (hs : PlainIx b) : VO X W (.Subscript a b pos) (oOp f ta tb) := by
  obtain ⟨pa, p1, s1⟩ := ha.ex
  obtain ⟨pb, p2, s2⟩ := hb.ex
  exact ⟨_, pe_ix hr p1 p2 hs, snd_op ho s1 s2⟩
/-- on one value -/
def UnSnd (K : PySem.W.Frag) (r : V → Hp → VK → Prop) (f : D → Option Sv) : Prop :=
  ∀ F env σ G H x vx res (Qh : VK), Ok K F env σ G H → RdR K G H x vx → f x = some res → (∀ v G' H', Ok K F env σ G' H' → Gle G G' → RO K F env σ G' H' res v → Qh v H') → r vx H Qh
def oUn (f : D → Option Sv) (ta : VTB) : VTO := fun env Q E => ta env (fun a env1 => ∃ x r, a.get env1 = some x ∧ f x = some r ∧ Q r env1) E
theorem vo_un {op : UnaryOp} {a : Expr} {pos : Pos} {r : V → Hp → VK → Prop} {f : D → Option Sv} {ta : VTB} (hr : UnR X (unaryOp op) r) (ho : UnSnd X.K r f) (ha : VB X W a ta) : VO X W (.UnaryOp op a pos) (oUn f ta) := by
  obtain ⟨pa, p1, s1⟩ := ha.ex
  refine ⟨_, pe_un hr p1, fun F env σ G H Q E Qh k xo ht q => ?_⟩
  refine s1 F env σ G H _ E _ k xo ht fun a env1 v1 G1 H1 k1 g1 r1 ⟨x, res, ex, er, hq⟩ => ?_
  exact ho F env1 σ G1 H1 x v1 res Qh k1 (k1.read ex r1) er fun v G3 H3 k3 g3 ro => q res env1 v G3 H3 k3 (g1.trans g3) ro hq
/-- a call of a built-in, by values -/
def CallSnd (K : PySem.W.Frag) (r : List V → Hp → VK → Prop) (f : List D → Option Sv) : Prop :=
  ∀ F env σ G H xs vs res (Qh : VK), Ok K F env σ G H → Paired (fun v d => RdR K G H d v) vs xs → f xs = some res → (∀ v G' H', Ok K F env σ G' H' → Gle G G' → RO K F env σ G' H' res v → Qh v H') → r vs H Qh
def oCB (f : List D → Option Sv) (ta : VTA) : VTO := fun env Q E => ta env (fun bs env1 => ∃ xs r, gets env1 bs = some xs ∧ f xs = some r ∧ Q r env1) E
theorem snd_cb {r : List V → Hp → VK → Prop} {f : List D → Option Sv} {pa : TA} {ta : VTA} (ho : CallSnd K r f) (ha : SndA K W pa ta) : SndO K W (tCB r pa) (oCB f ta) := by
  intro F env σ G H Q E Qh k xo ht q
  refine ha F env σ G H _ E _ k xo ht fun bs env1 vs G1 H1 k1 g1 r1 ⟨xs, res, ex, er, hq⟩ => ?_
  exact ho F env1 σ G1 H1 xs vs res Qh k1 (k1.reads r1 ex) er fun v G3 H3 k3 g3 ro => q res env1 v G3 H3 k3 (g1.trans g3) ro hq
theorem vo_callB {x : Str} {p pos : Pos} {e : Expr} {es : List Expr} {id : String} {r : List V → Hp → VK → Prop} {f : List D → Option Sv} {ta : VTA} (hc : CallR X (.builtin id) r) (ho : CallSnd X.K r f) (hg : Gl X x) (hm : X.mg x = none) (hv : bootBuiltins x = some (.builtin id)) (ha : VA X W (e :: es) ta)
    (hn : x ≠ "__name__" := by decide) (hdb : (x == ("__debug__" : Str)) = false := by decide) (he : starEach (e :: es) X.env = (false, eval e X.env) :: starEach es X.env := by rfl) (hpl : (backTo pos (starEach es X.env)).any (·.1) = false := by rfl) :
    VO X W (.Call (.Name x p) (e :: es) [] pos) (oCB f ta) := by
  obtain ⟨pa, p1, s1⟩ := ha.ex
  exact ⟨_, pe_callB hc hg hm hv p1 hn hdb he hpl, snd_cb ho s1⟩
theorem vo_callTy {x : Str} {p pos : Pos} {e : Expr} {es : List Expr} {T : String} {r : List V → Hp → VK → Prop} {f : List D → Option Sv} {ta : VTA} (hc : CallR X (.type T) r) (ho : CallSnd X.K r f) (hg : Gl X x) (hm : X.mg x = none) (hv : bootBuiltins x = some (.type T)) (ha : VA X W (e :: es) ta)
    (hn : x ≠ "__name__" := by decide) (hdb : (x == ("__debug__" : Str)) = false := by decide) (he : starEach (e :: es) X.env = (false, eval e X.env) :: starEach es X.env := by rfl) (hpl : (backTo pos (starEach es X.env)).any (·.1) = false := by rfl) :
    VO X W (.Call (.Name x p) (e :: es) [] pos) (oCB f ta) := by
  obtain ⟨pa, p1, s1⟩ := ha.ex
  exact ⟨_, pe_callTy hc hg hm hv p1 hn hdb he hpl, snd_cb ho s1⟩

/-! ### tests -/
def tVal (t : VTE) : VTT := fun env Q E => t env (fun d env' => ∃ c, d = .bl c ∧ Q c env') E
theorem vt_val {e : Expr} {t : VTE} (h : VE X W e t) (he : ∀ whole, isTrue e X.env whole = (do let v ← whole; standAt e.pos; holding [v] (truthy v)) := by intro _; rfl) : VT X W e (tVal t) := by
  obtain ⟨te, p, s⟩ := h.ex
  refine ⟨_, pt_val p he, fun F env σ G H Q E Qh k xo ht q => ?_⟩
  refine s F env σ G H _ E _ k xo ht fun d env' v G' H' k' g r ⟨c, e, hq⟩ => ?_
  subst e
  exact ⟨c, rep_blv r, q c env' G' H' k' g hq⟩
theorem vt_cmp {op : CmpOp} {a b : Expr} {pos : Pos} {r : R2} {f : D → D → Option Sv} {ta tb : VTB} (hr : OpR X (compareOp op) r) (ho : OpSnd X.K r f) (ha : VB X W a ta) (hb : VB X W b tb) (hm : behindInMarks op b = false) : VT X W (.Compare a [op] [b] pos) (tVal (oE (oOp f ta tb))) := by
  obtain ⟨pa, p1, s1⟩ := ha.ex
  obtain ⟨pb, p2, s2⟩ := hb.ex
  obtain ⟨te, p, s⟩ := (VO.e (X := X) (W := W) (e := .Compare a [op] [b] pos) ⟨_, pe_cmpR hr p1 p2 hm, snd_op ho s1 s2⟩).ex
  refine ⟨_, pt_cmpR hr p1 p2 hm, fun F env σ G H Q E Qh k xo ht q => ?_⟩
  refine snd_op ho s1 s2 F env σ G H _ E _ k xo ht fun r env' v G' H' k' g ro ⟨hi, c, e, hq⟩ => ?_
  obtain ⟨G2, g2, k2, rp⟩ := ro.shared k' hi
  rw [e] at rp
  exact ⟨c, rep_blv rp, q c env' G2 H' k2 (g.trans g2) hq⟩
def tAnd2 (t u : VTT) : VTT := fun env Q E => t env (fun c env1 => if c = true then u env1 Q E else Q false env1) E
def tOr2 (t u : VTT) : VTT := fun env Q E => t env (fun c env1 => if c = true then Q true env1 else u env1 Q E) E
def tNot2 (t : VTT) : VTT := fun env Q E => t env (fun c env1 => Q (!c) env1) E
structure VW (X : Cx) (W : WX) (e : Expr) (t : VTT) : Prop where
  ex : ∃ te, PW X e te ∧ SndT X.K W te t
theorem VW.t {e : Expr} {t : VTT} (h : VW X W e t) : VT X W e t := by
  obtain ⟨te, p, s⟩ := h.ex
  exact ⟨te, p.pt, s⟩
theorem vw_and1 {a : Expr} {t : VTT} {pos : Pos} (h : VT X W a t) : VW X W (.BoolOp .And [a] pos) t := by
  obtain ⟨te, p, s⟩ := h.ex
  exact ⟨te, pw_and1 p, s⟩
theorem vw_or1 {a : Expr} {t : VTT} {pos : Pos} (h : VT X W a t) : VW X W (.BoolOp .Or [a] pos) t := by
  obtain ⟨te, p, s⟩ := h.ex
  exact ⟨te, pw_or1 p, s⟩
theorem snd_and {pa pb : TT} {t u : VTT} (ha : SndT K W pa t) (hb : SndT K W pb u) : SndT K W (L2.tAnd pa pb) (tAnd2 t u) := by
  intro F env σ G H Q E Qh k xo ht q
  refine ha F env σ G H _ E _ k xo ht fun c env1 G1 H1 k1 g1 hc => ?_
  cases c with
  | true => rw [if_pos rfl] at hc ⊢; exact hb F env1 σ G1 H1 Q E Qh k1 xo hc fun b env' G' H' k' g' hq => q b env' G' H' k' (g1.trans g') hq
  | false => rw [if_neg Bool.false_ne_true] at hc ⊢; exact q false env1 G1 H1 k1 g1 hc
theorem snd_or {pa pb : TT} {t u : VTT} (ha : SndT K W pa t) (hb : SndT K W pb u) : SndT K W (L2.tOr pa pb) (tOr2 t u) := by
  intro F env σ G H Q E Qh k xo ht q
  refine ha F env σ G H _ E _ k xo ht fun c env1 G1 H1 k1 g1 hc => ?_
  cases c with
  | true => rw [if_pos rfl] at hc ⊢; exact q true env1 G1 H1 k1 g1 hc
  | false => rw [if_neg Bool.false_ne_true] at hc ⊢; exact hb F env1 σ G1 H1 Q E Qh k1 xo hc fun b env' G' H' k' g' hq => q b env' G' H' k' (g1.trans g') hq
theorem vw_and {a b : Expr} {rest : List Expr} {pos : Pos} {t u : VTT} (ha : VT X W a t) (hb : VW X W (.BoolOp .And (b :: rest) pos) u) : VW X W (.BoolOp .And (a :: b :: rest) pos) (tAnd2 t u) := by
  obtain ⟨pa, p1, s1⟩ := ha.ex
  obtain ⟨pb, p2, s2⟩ := hb.ex
  exact ⟨_, pw_and p1 p2, snd_and s1 s2⟩
theorem vw_or {a b : Expr} {rest : List Expr} {pos : Pos} {t u : VTT} (ha : VT X W a t) (hb : VW X W (.BoolOp .Or (b :: rest) pos) u) : VW X W (.BoolOp .Or (a :: b :: rest) pos) (tOr2 t u) := by
  obtain ⟨pa, p1, s1⟩ := ha.ex
  obtain ⟨pb, p2, s2⟩ := hb.ex
  exact ⟨_, pw_or p1 p2, snd_or s1 s2⟩
theorem vt_not {a : Expr} {pos : Pos} {t : VTT} (h : VT X W a t) : VT X W (.UnaryOp .Not a pos) (tNot2 t) := by
  obtain ⟨te, p, s⟩ := h.ex
  refine ⟨_, pt_not p, fun F env σ G H Q E Qh k xo ht q => ?_⟩
  exact s F env σ G H _ E _ k xo ht fun c env1 G1 H1 k1 g1 hc => q (!c) env1 G1 H1 k1 g1 hc
/-! .. as values -/
def vAndV (t u : VTE) : VTE := fun env Q E => t env (fun d env1 => ∃ c, d = .bl c ∧ if c = true then u env1 Q E else Q (.bl false) env1) E
def vOrV (t u : VTE) : VTE := fun env Q E => t env (fun d env1 => ∃ c, d = .bl c ∧ if c = true then Q (.bl true) env1 else u env1 Q E) E
def vNotV (t : VTE) : VTE := fun env Q E => t env (fun d env1 => ∃ c, d = .bl c ∧ Q (.bl (!c)) env1) E
theorem ve_one {op} {a : Expr} {pos : Pos} {t : VTE} (h : VE X W a t) : VE X W (.BoolOp op [a] pos) t := by
  obtain ⟨te, p, s⟩ := h.ex
  exact ⟨te, pe_one p, s⟩
theorem ve_and {a b : Expr} {rest : List Expr} {pos : Pos} {t u : VTE} (ha : VE X W a t) (hb : VE X W (.BoolOp .And (b :: rest) pos) u) : VE X W (.BoolOp .And (a :: b :: rest) pos) (vAndV t u) := by
  obtain ⟨pa, p1, s1⟩ := ha.ex
  obtain ⟨pb, p2, s2⟩ := hb.ex
  refine ⟨_, pe_and p1 p2, fun F env σ G H Q E Qh k xo ht q => ?_⟩
  refine s1 F env σ G H _ E _ k xo ht fun d env1 v G1 H1 k1 g1 r ⟨c, e, hc⟩ => ?_
  subst e
  refine ⟨c, rep_blv r, ?_⟩
  cases c with
  | true => rw [if_pos rfl] at hc ⊢; exact s2 F env1 σ G1 H1 Q E Qh k1 xo hc fun d env' v G' H' k' g' r' hq => q d env' v G' H' k' (g1.trans g') r' hq
  | false => rw [if_neg Bool.false_ne_true] at hc ⊢; exact q (.bl false) env1 _ G1 H1 k1 g1 rep_bl hc
theorem ve_or {a b : Expr} {rest : List Expr} {pos : Pos} {t u : VTE} (ha : VE X W a t) (hb : VE X W (.BoolOp .Or (b :: rest) pos) u) : VE X W (.BoolOp .Or (a :: b :: rest) pos) (vOrV t u) := by
  obtain ⟨pa, p1, s1⟩ := ha.ex
  obtain ⟨pb, p2, s2⟩ := hb.ex
  refine ⟨_, pe_or p1 p2, fun F env σ G H Q E Qh k xo ht q => ?_⟩
  refine s1 F env σ G H _ E _ k xo ht fun d env1 v G1 H1 k1 g1 r ⟨c, e, hc⟩ => ?_
  subst e
  refine ⟨c, rep_blv r, ?_⟩
  cases c with
  | true => rw [if_pos rfl] at hc ⊢; exact q (.bl true) env1 _ G1 H1 k1 g1 rep_bl hc
  | false => rw [if_neg Bool.false_ne_true] at hc ⊢; exact s2 F env1 σ G1 H1 Q E Qh k1 xo hc fun d env' v G' H' k' g' r' hq => q d env' v G' H' k' (g1.trans g') r' hq
theorem ve_not {a : Expr} {pos : Pos} {t : VTE} (ha : VE X W a t) : VE X W (.UnaryOp .Not a pos) (vNotV t) := by
  obtain ⟨pa, p1, s1⟩ := ha.ex
  refine ⟨_, pe_not p1, fun F env σ G H Q E Qh k xo ht q => ?_⟩
  refine s1 F env σ G H _ E _ k xo ht fun d env1 v G1 H1 k1 g1 r ⟨c, e, hc⟩ => ?_
  subst e
  exact ⟨c, rep_blv r, q _ env1 _ G1 H1 k1 g1 rep_bl hc⟩
def oIf (c : VTT) (t u : VTO) : VTO := fun env Q E => c env (fun b env1 => if b = true then t env1 Q E else u env1 Q E) E
theorem vo_if {c a b : Expr} {pos : Pos} {tc : VTT} {t u : VTO} (hc : VT X W c tc) (ha : VO X W a t) (hb : VO X W b u) : VO X W (.IfExp c a b pos) (oIf tc t u) := by
  obtain ⟨pc, p0, s0⟩ := hc.ex
  obtain ⟨pa, p1, s1⟩ := ha.ex
  obtain ⟨pb, p2, s2⟩ := hb.ex
  refine ⟨_, pe_ifExp p0 p1 p2, fun F env σ G H Q E Qh k xo ht q => ?_⟩
  refine s0 F env σ G H _ E _ k xo ht fun c env1 G1 H1 k1 g1 hq => ?_
  cases c with
  | true => rw [if_pos rfl] at hq ⊢; exact s1 F env1 σ G1 H1 Q E Qh k1 xo hq fun d env' v G' H' k' g' r' hq => q d env' v G' H' k' (g1.trans g') r' hq
  | false => rw [if_neg Bool.false_ne_true] at hq ⊢; exact s2 F env1 σ G1 H1 Q E Qh k1 xo hq fun d env' v G' H' k' g' r' hq => q d env' v G' H' k' (g1.trans g') r' hq
end
end VL
set_option linter.all false
set_option maxRecDepth 100000
set_option maxHeartbeats 4000000
namespace VL
open PySem PySem.Spec PyProof.Rows L2

section
variable {X : Cx} {W : WX} {K : PySem.W.Frag} {F : FrD} {env : En} {σ : L2.St} {G H G' H' : Hp} {d : D} {v : V} {p : Addr} {xs : List V} {ds : List D}
theorem Sub.lst (s : Sub G H) {a : Addr} (h : G a = some (.lst xs)) : H a = some (.lst xs) := by
  rcases s a _ h with q | ⟨⟨kvs, e⟩, _⟩
  · exact q
  · cases e
theorem Sub.tup (s : Sub G H) {a : Addr} (h : G a = some (.tup xs)) : H a = some (.tup xs) := by
  rcases s a _ h with q | ⟨⟨kvs, e⟩, _⟩
  · exact q
  · cases e
theorem Sub.dK (s : Sub G H) {a : Addr} {kvs : List (Key × V)} (h : G a = some (.dK kvs)) : Rd H a (.dK kvs) := by
  rcases s a _ h with q | ⟨_, o, q⟩
  · exact .inl q
  · exact .inr ⟨o, q⟩
theorem Sub.sql (s : Sub G H) {a : Addr} (h : SqL K G a xs) : SqL K H a xs := by
  rcases h with (h | ⟨o, h⟩) | h
  · exact .inl (.inl (s.lst h))
  · rcases s a _ h with q | ⟨⟨kvs, e⟩, _⟩
    · exact .inl (.inr ⟨o, q⟩)
    · cases e
  · exact .inr h
theorem RdR.int {i : Int} (h : RdR K G H (.int i) v) : v = .int i := by
  rcases h with h | h <;> simpa [Rep, OwR] using h
theorem RdR.bl {i : Bool} (h : RdR K G H (.bl i) v) : v = .bl i := by
  rcases h with h | h <;> simpa [Rep, OwR] using h
theorem RdR.non (h : RdR K G H .non v) : v = .non := by
  rcases h with h | h <;> simpa [Rep, OwR] using h
theorem RdR.str {z : Str} (h : RdR K G H (.str z) v) : v = .str z ∧ z.length ≤ sizeLine := by
  rcases h with h | h <;> simpa [Rep, OwR] using h
theorem RdR.lst (s : Sub G H) (h : RdR K G H (.lst ds) v) : ∃ a xs, v = .ref a ∧ H a = some (.lst xs) ∧ xs.length ≤ sizeLine ∧ Reps K G ds xs := by
  rcases h with h | h
  · simp only [Rep] at h
    obtain ⟨a, xs, e, q, z, r⟩ := h
    exact ⟨a, xs, e, s.lst q, z, r⟩
  · obtain ⟨a, xs, e, q, _, z, r⟩ := h
    exact ⟨a, xs, e, q, z, r⟩
theorem RdR.tup (s : Sub G H) (h : RdR K G H (.tup ds) v) : ∃ a xs, v = .ref a ∧ G a = some (.tup xs) ∧ H a = some (.tup xs) ∧ xs.length ≤ sizeLine ∧ Reps K G ds xs := by
  have h : Rep K G (.tup ds) v := by rcases h with h | h <;> exact h
  simp only [Rep] at h
  obtain ⟨a, xs, e, q, z, r⟩ := h
  exact ⟨a, xs, e, q, s.tup q, z, r⟩
theorem RdR.fzl (s : Sub G H) (h : RdR K G H (.fzl ds) v) : ∃ a xs, v = .ref a ∧ SqL K H a xs ∧ xs.length ≤ sizeLine ∧ Reps K G ds xs := by
  have h : Rep K G (.fzl ds) v := by rcases h with h | h <;> exact h
  simp only [Rep] at h
  obtain ⟨a, xs, e, q, z, r⟩ := h
  exact ⟨a, xs, e, s.sql q, z, r⟩
theorem RdR.dct (s : Sub G H) {kvs : List (Key × D)} (h : RdR K G H (.dct kvs) v) : ∃ a ys, v = .ref a ∧ Rd H a (.dK ys) ∧ ys.length ≤ sizeLine ∧ Repk K G kvs ys := by
  rcases h with h | h
  · simp only [Rep] at h
    obtain ⟨a, xs, e, q, z, r⟩ := h
    exact ⟨a, xs, e, s.dK q, z, r⟩
  · obtain ⟨a, xs, e, q, _, z, r⟩ := h
    exact ⟨a, xs, e, .inl q, z, r⟩
/-- list or frozen list -/
theorem RdR.seq (s : Sub G H) (h : RdR K G H (.lst ds) v ∨ RdR K G H (.fzl ds) v) : ∃ a xs, v = .ref a ∧ SqL K H a xs ∧ xs.length ≤ sizeLine ∧ Reps K G ds xs := by
  rcases h with h | h
  · obtain ⟨a, xs, e, q, z, r⟩ := h.lst s
    exact ⟨a, xs, e, .inl (.inl q), z, r⟩
  · exact h.fzl s
/-! ### new objects -/
theorem ro_lst (k : Ok K F env σ G H) (hp : H p = none) (z : xs.length ≤ sizeLine) (r : Reps K G ds xs) : Ok K F env σ G (upd H p (.lst xs)) ∧ RO K F env σ G (upd H p (.lst xs)) (.ow (.lst ds)) (.ref p) := by
  refine ⟨k.alloc hp, ⟨p, xs, rfl, upd_same, k.gnone hp, z, r⟩, fun a ha => ?_⟩
  cases ha
  exact ⟨k.fnone hp, fun i s e => k.notOwned hp i s e⟩
theorem ro_dct (k : Ok K F env σ G H) (hp : H p = none) {ys : List (Key × V)} {kvs : List (Key × D)} (z : ys.length ≤ sizeLine) (r : Repk K G kvs ys) : Ok K F env σ G (upd H p (.dK ys)) ∧ RO K F env σ G (upd H p (.dK ys)) (.ow (.dct kvs)) (.ref p) := by
  refine ⟨k.alloc hp, ⟨p, ys, rfl, upd_same, k.gnone hp, z, r⟩, fun a ha => ?_⟩
  cases ha
  exact ⟨k.fnone hp, fun i s e => k.notOwned hp i s e⟩
theorem ro_tup (k : Ok K F env σ G H) (hp : H p = none) (z : xs.length ≤ sizeLine) (r : Reps K G ds xs) : Ok K F env σ (upd G p (.tup xs)) (upd H p (.tup xs)) ∧ Gle G (upd G p (.tup xs)) ∧ Rep K (upd G p (.tup xs)) (.tup ds) (.ref p) := by
  refine ⟨k.laid hp, Gle.upd (k.gnone hp), ?_⟩
  simp only [Rep]
  exact ⟨p, xs, rfl, upd_same, z, r.gle (Gle.upd (k.gnone hp))⟩

theorem ro_int {i : Int} : RO K F env σ G H (.sh (.int i)) (.int i) := rep_int (K := K) (G := G)
theorem ro_bl {i : Bool} : RO K F env σ G H (.sh (.bl i)) (.bl i) := rep_bl (K := K) (G := G)
theorem ro_non : RO K F env σ G H (.sh .non) .non := rep_non (K := K) (G := G)
theorem ro_str {z : Str} (h : z.length ≤ sizeLine) : RO K F env σ G H (.sh (.str z)) (.str z) := rep_str (K := K) (G := G) h
theorem ro_sh (h : Rep K G d v) : RO K F env σ G H (.sh d) v := h
/-! ### arithmetic -/
def fits (n : Nat) : Bool := decide (n ≤ 16777216)
theorem fits_ok {n : Nat} (h : fits n = true) : n ≤ sizeLine := by rw [sizeLine_eq]; exact of_decide_eq_true h
def vAdd : D → D → Option Sv
  | .int i, .int j => some (.sh (.int (i + j)))
  | .str a, .str b => if fits (a.length + b.length) = true then some (.sh (.str (a ++ b))) else none
  | .lst a, .lst b => if fits (a.length + b.length) = true then some (.ow (.lst (a ++ b))) else none
  | .tup a, .tup b => if fits (a.length + b.length) = true then some (.sh (.tup (a ++ b))) else none
  | _, _ => none
theorem str_app_len (a b : Str) : (a ++ b).length = a.length + b.length := by
  show (a.cps ++ b.cps).size = _
  simp [Array.size_append]; rfl
def rAdd4 (K : PySem.W.Frag) : R2 := fun x y H Q => (rI0 (fun i j => V.int (i + j))) x y H Q ∨ (∃ i j, x = .str i ∧ y = .str j ∧ i.length + j.length ≤ sizeLine ∧ Q (.str (i ++ j)) H) ∨ rCat x y H Q ∨ rCatA K x y H Q
theorem op_add4 : OpR X (binaryOp .Add) (rAdd4 X.K) := op_add.or (op_add_str.or (op_cat.or op_catA))
theorem snd_add : OpSnd K (rAdd4 K) vAdd := by
  intro F env σ G H x y vx vy res Qh k rx ry e q
  unfold vAdd at e
  split at e
  · have e1 := rx.int; have e2 := ry.int; subst e1 e2; cases e
    exact .inl ⟨_, _, rfl, rfl, q _ G H k (Gle.refl _) ro_int⟩
  · obtain ⟨e1, _⟩ := rx.str; obtain ⟨e2, _⟩ := ry.str; subst e1 e2
    split at e
    · rename_i a b hz
      cases e
      refine .inr (.inl ⟨_, _, rfl, rfl, fits_ok hz, q _ G H k (Gle.refl _) (ro_str ?_)⟩)
      rw [str_app_len]; exact fits_ok hz
    · cases e
  · split at e
    · rename_i a b hz
      cases e
      obtain ⟨p1, xs, rfl, h1, z1, r1⟩ := rx.lst k.sub
      obtain ⟨p2, ys, rfl, h2, z2, r2⟩ := ry.lst k.sub
      have hz' : xs.length + ys.length ≤ sizeLine := by rw [r1.len, r2.len]; exact fits_ok hz
      refine .inr (.inr (.inl ⟨p1, p2, xs, ys, rfl, rfl, h1, h2, hz', fun p hp => ?_⟩))
      obtain ⟨k1, ro⟩ := ro_lst k hp (xs := xs ++ ys) (by simpa using hz') (r1.app r2)
      exact q _ _ _ k1 (Gle.refl _) ro
    · cases e
  · split at e
    · rename_i a b hz
      cases e
      obtain ⟨p1, xs, rfl, g1, h1, z1, r1⟩ := rx.tup k.sub
      obtain ⟨p2, ys, rfl, g2, h2, z2, r2⟩ := ry.tup k.sub
      have hz' : xs.length + ys.length ≤ sizeLine := by rw [r1.len, r2.len]; exact fits_ok hz
      refine .inr (.inr (.inr ⟨p1, p2, xs, ys, rfl, rfl, .of h1, .of h2, hz', fun e => ?_, fun _ e => ?_, fun _ _ p hp => ?_⟩))
      · subst e
        have : a = [] := by have := r1.len; simpa using this.symm
        subst this
        refine q _ G H k (Gle.refl _) ?_
        simp only [RO, Rep, List.nil_append]; exact ⟨p2, ys, rfl, g2, z2, r2⟩
      · subst e
        have : b = [] := by have := r2.len; simpa using this.symm
        subst this
        refine q _ G H k (Gle.refl _) ?_
        simp only [RO, Rep, List.append_nil]; exact ⟨p1, xs, rfl, g1, z1, r1⟩
      · obtain ⟨k1, g, rp⟩ := ro_tup k hp (xs := xs ++ ys) (by simpa using hz') (r1.app r2)
        exact q _ _ _ k1 g rp
    · cases e
  · cases e
theorem vo_add {a b : Expr} {pos : Pos} {ta tb : VTB} (ha : VB X W a ta) (hb : VB X W b tb) : VO X W (.BinOp a .Add b pos) (oOp vAdd ta tb) := vo_op op_add4 snd_add ha hb
def vSub : D → D → Option Sv
  | .int i, .int j => some (.sh (.int (i - j)))
  | _, _ => none
theorem snd_sub : OpSnd K (rI0 fun i j => .int (i - j)) vSub := by
  intro F env σ G H x y vx vy res Qh k rx ry e q
  unfold vSub at e
  split at e
  · have e1 := rx.int; have e2 := ry.int; subst e1 e2; cases e
    exact ⟨_, _, rfl, rfl, q _ G H k (Gle.refl _) ro_int⟩
  · cases e
theorem vo_sub {a b : Expr} {pos : Pos} {ta tb : VTB} (ha : VB X W a ta) (hb : VB X W b tb) : VO X W (.BinOp a .Sub b pos) (oOp vSub ta tb) := vo_op op_sub snd_sub ha hb
/-- one factor is small -/
def vMul : D → D → Option Sv
  | .int i, .int j => if decide (-18446744073709551616 < i) && decide (i < 18446744073709551616) || decide (-18446744073709551616 < j) && decide (j < 18446744073709551616) then some (.sh (.int (i * j))) else none
  | .lst a, .int j => if decide (-9223372036854775808 ≤ j) && decide (j < 9223372036854775808) && fits (a.length * j.toNat) then some (.ow (.lst (List.replicate j.toNat a).flatten)) else none
  | _, _ => none
theorem Reps.rep {ds : List D} {xs : List V} (h : Reps K G ds xs) : ∀ n : Nat, Reps K G (List.replicate n ds).flatten (List.replicate n xs).flatten
  | 0 => .nil
  | n + 1 => by simp only [List.replicate_succ, List.flatten_cons]; exact h.app (Reps.rep h n)
def rMul2 : R2 := fun x y H Q => rI CMul (fun i j => V.int (i * j)) x y H Q ∨ rRep x y H Q
theorem op_mul2 : OpR X (binaryOp .Mult) rMul2 := op_mul.or op_rep
theorem snd_mul : OpSnd K rMul2 vMul := by
  intro F env σ G H x y vx vy res Qh k rx ry e q
  unfold vMul at e
  split at e
  · have e1 := rx.int; have e2 := ry.int; subst e1 e2
    split at e
    · rename_i hc
      cases e
      refine .inl ⟨_, _, rfl, rfl, ?_, q _ G H k (Gle.refl _) ro_int⟩
      simp only [Bool.or_eq_true, Bool.and_eq_true, decide_eq_true_eq] at hc
      exact hc
    · cases e
  · have e2 := ry.int; subst e2
    split at e
    · rename_i a j hc
      cases e
      obtain ⟨p1, xs, rfl, h1, z1, r1⟩ := rx.lst k.sub
      simp only [Bool.and_eq_true, decide_eq_true_eq] at hc
      obtain ⟨⟨c1, c2⟩, c3⟩ := hc
      have hz := fits_ok c3
      have hl : (List.replicate j.toNat xs).flatten.length ≤ sizeLine := by
        rw [List.length_flatten, List.map_replicate, List.sum_replicate_nat, r1.len, Nat.mul_comm]; exact hz
      refine .inr ⟨p1, j, xs, rfl, rfl, h1, c1, c2, by rw [r1.len]; exact hz, fun p hp => ?_⟩
      obtain ⟨k1, ro⟩ := ro_lst k hp hl (r1.rep j.toNat)
      exact q _ _ _ k1 (Gle.refl _) ro
    · cases e
  · cases e
theorem vo_mul {a b : Expr} {pos : Pos} {ta tb : VTB} (ha : VB X W a ta) (hb : VB X W b tb) : VO X W (.BinOp a .Mult b pos) (oOp vMul ta tb) := vo_op op_mul2 snd_mul ha hb
def vMod : D → D → Option Sv
  | .int i, .int j => if 0 < j then some (.sh (.int (i % j))) else none
  | _, _ => none
theorem snd_mod : OpSnd K (rI (fun _ j => 0 < j) fun i j => .int (i % j)) vMod := by
  intro F env σ G H x y vx vy res Qh k rx ry e q
  unfold vMod at e
  split at e
  · have e1 := rx.int; have e2 := ry.int; subst e1 e2
    split at e
    · rename_i hc; cases e
      exact ⟨_, _, rfl, rfl, hc, q _ G H k (Gle.refl _) ro_int⟩
    · cases e
  · cases e
theorem vo_mod {a b : Expr} {pos : Pos} {ta tb : VTB} (ha : VB X W a ta) (hb : VB X W b tb) : VO X W (.BinOp a .Mod b pos) (oOp vMod ta tb) := vo_op op_mod snd_mod ha hb
def vDiv : D → D → Option Sv
  | .int i, .int j => if 0 < j ∧ j < 1073741824 then some (.sh (.int (i / j))) else none
  | _, _ => none
theorem snd_div : OpSnd K (rI CDiv fun i j => .int (i / j)) vDiv := by
  intro F env σ G H x y vx vy res Qh k rx ry e q
  unfold vDiv at e
  split at e
  · have e1 := rx.int; have e2 := ry.int; subst e1 e2
    split at e
    · rename_i hc; cases e
      exact ⟨_, _, rfl, rfl, hc, q _ G H k (Gle.refl _) ro_int⟩
    · cases e
  · cases e
theorem vo_div {a b : Expr} {pos : Pos} {ta tb : VTB} (ha : VB X W a ta) (hb : VB X W b tb) : VO X W (.BinOp a .FloorDiv b pos) (oOp vDiv ta tb) := vo_op op_fdiv snd_div ha hb
def vNeg : D → Option Sv
  | .int i => some (.sh (.int (-i)))
  | _ => none
theorem snd_neg : UnSnd K (rU fun i => .int (-i)) vNeg := by
  intro F env σ G H x vx res Qh k rx e q
  unfold vNeg at e
  split at e
  · have e1 := rx.int; subst e1; cases e
    exact ⟨_, rfl, q _ G H k (Gle.refl _) ro_int⟩
  · cases e
theorem vo_neg {a : Expr} {pos : Pos} {ta : VTB} (ha : VB X W a ta) : VO X W (.UnaryOp .USub a pos) (oUn vNeg ta) := vo_un un_neg snd_neg ha

/-! ### order of ints -/
def vCmpI (p : Int → Int → Bool) : D → D → Option Sv
  | .int i, .int j => some (.sh (.bl (p i j)))
  | _, _ => none
theorem snd_cmpI {p : Int → Int → Bool} : OpSnd K (rI0 fun i j => .bl (p i j)) (vCmpI p) := by
  intro F env σ G H x y vx vy res Qh k rx ry e q
  unfold vCmpI at e
  split at e
  · have e1 := rx.int; have e2 := ry.int; subst e1 e2; cases e
    exact ⟨_, _, rfl, rfl, q _ G H k (Gle.refl _) ro_bl⟩
  · cases e
abbrev vLt := vCmpI fun i j => decide (i < j)
abbrev vLe := vCmpI fun i j => decide (i ≤ j)
abbrev vGt := vCmpI fun i j => decide (j < i)
abbrev vGe := vCmpI fun i j => decide (j ≤ i)
theorem vo_lt {a b : Expr} {pos : Pos} {ta tb : VTB} (ha : VB X W a ta) (hb : VB X W b tb) : VO X W (.Compare a [.Lt] [b] pos) (oOp vLt ta tb) := vo_cmp op_lt snd_cmpI ha hb (nomark _)
theorem vo_le {a b : Expr} {pos : Pos} {ta tb : VTB} (ha : VB X W a ta) (hb : VB X W b tb) : VO X W (.Compare a [.LtE] [b] pos) (oOp vLe ta tb) := vo_cmp op_le snd_cmpI ha hb (nomark _)
theorem vo_gt {a b : Expr} {pos : Pos} {ta tb : VTB} (ha : VB X W a ta) (hb : VB X W b tb) : VO X W (.Compare a [.Gt] [b] pos) (oOp vGt ta tb) := vo_cmp op_gt snd_cmpI ha hb (nomark _)
theorem vo_ge {a b : Expr} {pos : Pos} {ta tb : VTB} (ha : VB X W a ta) (hb : VB X W b tb) : VO X W (.Compare a [.GtE] [b] pos) (oOp vGe ta tb) := vo_cmp op_ge snd_cmpI ha hb (nomark _)
theorem vt_lt {a b : Expr} {pos : Pos} {ta tb : VTB} (ha : VB X W a ta) (hb : VB X W b tb) : VT X W (.Compare a [.Lt] [b] pos) (tVal (oE (oOp vLt ta tb))) := vt_cmp op_lt snd_cmpI ha hb (nomark _)
theorem vt_le {a b : Expr} {pos : Pos} {ta tb : VTB} (ha : VB X W a ta) (hb : VB X W b tb) : VT X W (.Compare a [.LtE] [b] pos) (tVal (oE (oOp vLe ta tb))) := vt_cmp op_le snd_cmpI ha hb (nomark _)
theorem vt_gt {a b : Expr} {pos : Pos} {ta tb : VTB} (ha : VB X W a ta) (hb : VB X W b tb) : VT X W (.Compare a [.Gt] [b] pos) (tVal (oE (oOp vGt ta tb))) := vt_cmp op_gt snd_cmpI ha hb (nomark _)
theorem vt_ge {a b : Expr} {pos : Pos} {ta tb : VTB} (ha : VB X W a ta) (hb : VB X W b tb) : VT X W (.Compare a [.GtE] [b] pos) (tVal (oE (oOp vGe ta tb))) := vt_cmp op_ge snd_cmpI ha hb (nomark _)

/-! ### is None, is True -/
def dNon : D → Bool
  | .non => true
  | _ => false
theorem non_of (h : RdR K G H d v) (hs : Sub G H) : decide (v = .non) = dNon d := by
  cases d with
  | non => rw [h.non]; rfl
  | bl b => rw [h.bl]; rfl
  | int b => rw [h.int]; rfl
  | str b => rw [h.str.1]; rfl
  | lst b => obtain ⟨_, _, rfl, _⟩ := h.lst hs; rfl
  | tup b => obtain ⟨_, _, rfl, _⟩ := h.tup hs; rfl
  | dct b => obtain ⟨_, _, rfl, _⟩ := h.dct hs; rfl
  | fzl b => obtain ⟨_, _, rfl, _⟩ := h.fzl hs; rfl
  | exc C fs =>
    have h : Rep K G (.exc C fs) v := by rcases h with h | h <;> exact h
    simp only [Rep] at h
    obtain ⟨_, _, rfl, _⟩ := h; rfl
  | box C fs =>
    rcases h with h | h
    · simp only [Rep] at h
    · obtain ⟨_, _, _, rfl, _⟩ := h; rfl
def vIsN : D → D → Option Sv
  | x, .non => some (.sh (.bl (dNon x)))
  | _, _ => none
def vNotN : D → D → Option Sv
  | x, .non => some (.sh (.bl (!dNon x)))
  | _, _ => none
theorem snd_isN : OpSnd K (fun x y H Q => y = .non ∧ Q (.bl (decide (x = .non))) H) vIsN := by
  intro F env σ G H x y vx vy res Qh k rx ry e q
  unfold vIsN at e
  split at e
  · cases e
    rw [non_of rx k.sub]
    exact ⟨ry.non, q _ G H k (Gle.refl _) ro_bl⟩
  · cases e
theorem snd_notN : OpSnd K (fun x y H Q => y = .non ∧ Q (.bl (!decide (x = .non))) H) vNotN := by
  intro F env σ G H x y vx vy res Qh k rx ry e q
  unfold vNotN at e
  split at e
  · cases e
    rw [non_of rx k.sub]
    exact ⟨ry.non, q _ G H k (Gle.refl _) ro_bl⟩
  · cases e
theorem vo_isN {a b : Expr} {pos : Pos} {ta tb : VTB} (ha : VB X W a ta) (hb : VB X W b tb) : VO X W (.Compare a [.Is] [b] pos) (oOp vIsN ta tb) := vo_cmp op_isN snd_isN ha hb (nomark _)
theorem vt_isN {a b : Expr} {pos : Pos} {ta tb : VTB} (ha : VB X W a ta) (hb : VB X W b tb) : VT X W (.Compare a [.Is] [b] pos) (tVal (oE (oOp vIsN ta tb))) := vt_cmp op_isN snd_isN ha hb (nomark _)
theorem vo_notN {a b : Expr} {pos : Pos} {ta tb : VTB} (ha : VB X W a ta) (hb : VB X W b tb) : VO X W (.Compare a [.IsNot] [b] pos) (oOp vNotN ta tb) := vo_cmp op_notN snd_notN ha hb (nomark _)
theorem vt_notN {a b : Expr} {pos : Pos} {ta tb : VTB} (ha : VB X W a ta) (hb : VB X W b tb) : VT X W (.Compare a [.IsNot] [b] pos) (tVal (oE (oOp vNotN ta tb))) := vt_cmp op_notN snd_notN ha hb (nomark _)

/-! ### a chain of two comparisons -/
def oChain (f f' : D → D → Option Sv) (ta tb tc : VTB) : VTO := fun env Q E => ta env (fun a env1 => tb env1 (fun b env2 => ∃ x y c, a.get env2 = some x ∧ b.get env2 = some y ∧ f x y = some (.sh (.bl c)) ∧
  if c = true then tc env2 (fun d env3 => ∃ y z r, b.get env3 = some y ∧ d.get env3 = some z ∧ f' y z = some r ∧ Q r env3) E else Q (.sh (.bl false)) env2) E) E
theorem vo_chain {op op' : CmpOp} {a b c : Expr} {pos : Pos} {r r' : R2} {f f' : D → D → Option Sv} {ta tb tc : VTB} (ho : OpR X (compareOp op) r) (ho' : OpR X (compareOp op') r') (s : OpSnd X.K r f) (s' : OpSnd X.K r' f') (ha : VB X W a ta) (hb : VB X W b tb) (hc : VB X W c tc)
    (pc : ∀ pa pb pc, PE X a pa → PE X b pb → PE X c pc → PE X (.Compare a [op, op'] [b, c] pos) (tChain r r' pa pb pc)) : VO X W (.Compare a [op, op'] [b, c] pos) (oChain f f' ta tb tc) := by
  obtain ⟨pa, p1, s1⟩ := ha.ex
  obtain ⟨pb, p2, s2⟩ := hb.ex
  obtain ⟨pcc, p3, s3⟩ := hc.ex
  refine ⟨_, pc _ _ _ p1 p2 p3, fun F env σ G H Q E Qh k xo ht q => ?_⟩
  refine s1 F env σ G H _ E _ k xo ht fun a env1 v1 G1 H1 k1 g1 r1 ht1 => ?_
  refine s2 F env1 σ G1 H1 _ E _ k1 xo ht1 fun b env2 v2 G2 H2 k2 g2 r2 ⟨x, y, c, ex, ey, er, hq⟩ => ?_
  refine s F env2 σ G2 H2 x y v1 v2 _ _ k2 (k2.read ex (r1.gle g2)) (k2.read ey r2) er fun v G3 H3 k3 g3 ro => ?_
  refine ⟨c, rep_blv (K := X.K) (G := G3) ro, ?_⟩
  cases c with
  | true =>
    rw [if_pos rfl] at hq ⊢
    refine s3 F env2 σ G3 H3 _ E _ k3 xo hq fun d env3 v3 G4 H4 k4 g4 r4 ⟨y', z, res, ey', ez, er', hq⟩ => ?_
    exact s' F env3 σ G4 H4 y' z v2 v3 res _ k4 (k4.read ey' ((r2.gle g3).gle g4)) (k4.read ez r4) er' fun v G5 H5 k5 g5 ro => q res env3 v G5 H5 k5 ((((g1.trans g2).trans g3).trans g4).trans g5) ro hq
  | false =>
    rw [if_neg Bool.false_ne_true] at hq ⊢
    exact q _ env2 _ G3 H3 k3 ((g1.trans g2).trans g3) ro_bl hq
end
end VL
set_option linter.all false
set_option maxRecDepth 100000
set_option maxHeartbeats 4000000
namespace VL
open PySem PySem.Spec PyProof.Rows L2

/-! ### == and != of data without dicts -/
mutual
def deq : D → D → Bool
  | .non, .non => true
  | .bl a, .bl b => a == b
  | .bl a, .int j => (if a then 1 else 0) == j
  | .int i, .bl b => i == (if b then 1 else 0)
  | .int i, .int j => i == j
  | .str a, .str b => a == b
  | .lst xs, .lst ys => deqs xs ys
  | .tup xs, .tup ys => deqs xs ys
  | _, _ => false
def deqs : List D → List D → Bool
  | [], [] => true
  | x :: xs, y :: ys => deq x y && deqs xs ys
  | _, _ => false
end
mutual
def pl : D → Bool
  | .non => true | .bl _ => true | .int _ => true | .str _ => true
  | .lst xs => pls xs
  | .tup xs => pls xs
  | _ => false
def pls : List D → Bool
  | [] => true
  | x :: xs => pl x && pls xs
end
mutual
def dep : D → Nat
  | .lst xs => deps xs + 1
  | .tup xs => deps xs + 1
  | _ => 0
def deps : List D → Nat
  | [] => 0
  | x :: xs => max (dep x) (deps xs)
end
/-- the heap as it may be read -/
def lift (H : Hp) : Hp := fun a => match H a with
  | some (.frz o u) => some u
  | x => x
theorem lift_rd {H : Hp} {a : Addr} {u : HO} (h : lift H a = some u) : Rd H a u := by
  unfold lift at h
  split at h
  · rename_i o u' e; cases h; exact .inr ⟨o, e⟩
  · exact .inl h
section
variable {X : Cx} {W : WX} {K : PySem.W.Frag} {F : FrD} {env : En} {σ : L2.St} {G H G' H' : Hp} {d : D} {v : V} {p : Addr} {xs : List V} {ds : List D}
theorem Sub.lift (s : Sub G H) (hg : ∀ a o u, G a ≠ some (.frz o u)) : Gle G (VL.lift H) := fun a u e => by
  rcases s a u e with q | ⟨⟨kvs, rfl⟩, o, q⟩
  · unfold VL.lift; rw [q]
    split
    · rename_i o' u' e'; cases e'; exact absurd e (hg _ _ _)
    · rfl
  · unfold VL.lift; rw [q]
end
mutual
theorem deq_same {K : PySem.W.Frag} {G : Hp} : ∀ {d e : D} {v : V}, Rep K G d v → Rep K G e v → pl d = true → pl e = true → deq d e = true
  | .non, e, v, h, h', p, p' => by
    simp only [Rep] at h; subst h
    cases e <;> simp_all [Rep, deq, pl]
  | .bl b, e, v, h, h', p, p' => by
    simp only [Rep] at h; subst h
    cases e <;> simp_all [Rep, deq, pl]
  | .int b, e, v, h, h', p, p' => by
    simp only [Rep] at h; subst h
    cases e <;> simp_all [Rep, deq, pl]
  | .str b, e, v, h, h', p, p' => by
    simp only [Rep] at h; obtain ⟨rfl, _⟩ := h
    cases e <;> simp_all [Rep, deq, pl]
  | .lst xs, e, v, h, h', p, p' => by
    simp only [Rep] at h
    obtain ⟨a, ys, rfl, h1, _, h2⟩ := h
    cases e <;> simp_all [Rep, pl]
    rename_i zs
    simp only [deq]
    exact deqs_same h2 (by first | exact h' | exact h'.2) p p'
  | .tup xs, e, v, h, h', p, p' => by
    simp only [Rep] at h
    obtain ⟨a, ys, rfl, h1, _, h2⟩ := h
    cases e <;> simp_all [Rep, pl]
    rename_i zs
    simp only [deq]
    exact deqs_same h2 (by first | exact h' | exact h'.2) p p'
  | .dct _, _, _, _, _, p, _ => by simp [pl] at p
  | .fzl _, _, _, _, _, p, _ => by simp [pl] at p
  | .exc _ _, _, _, _, _, p, _ => by simp [pl] at p
  | .box _ _, _, _, _, _, p, _ => by simp [pl] at p
theorem deqs_same {K : PySem.W.Frag} {G : Hp} : ∀ {ds es : List D} {vs : List V}, Reps K G ds vs → Reps K G es vs → pls ds = true → pls es = true → deqs ds es = true
  | [], es, vs, h, h', p, p' => by
    simp only [Reps] at h; subst h
    cases es with
    | nil => rfl
    | cons e es => simp [Reps] at h'
  | d :: ds, es, vs, h, h', p, p' => by
    simp only [Reps] at h
    obtain ⟨x, r, rfl, h1, h2⟩ := h
    cases es with
    | nil => simp [Reps] at h'
    | cons e es =>
      simp only [Reps] at h'
      obtain ⟨x', r', e', h1', h2'⟩ := h'
      cases e'
      simp only [pls, Bool.and_eq_true] at p p'
      simp only [deqs, Bool.and_eq_true]
      exact ⟨deq_same h1 h1' p.1 p'.1, deqs_same h2 h2' p.2 p'.2⟩
end
theorem deqs_len {ds es : List D} (h : ds.length ≠ es.length) : deqs ds es = false := by
  induction ds generalizing es with
  | nil => cases es with
    | nil => simp at h
    | cons e es => rfl
  | cons d ds ih => cases es with
    | nil => rfl
    | cons e es => simp only [deqs]; rw [ih (by simpa using h)]; simp
theorem deqs_all : ∀ {ds es : List D}, ds.length = es.length → deqs ds es = (List.range ds.length).all fun j => deq (ds.getD j .non) (es.getD j .non)
  | [], [], _ => by simp [deqs]
  | d :: ds, e :: es, h => by
    simp only [deqs]
    rw [deqs_all (ds := ds) (es := es) (by simpa using h), List.length_cons, List.range_succ_eq_map]
    simp [List.all_map, Function.comp_def]
  | [], _ :: _, h => by simp at h
  | _ :: _, [], h => by simp at h
theorem pls_get : ∀ {ds : List D} {j : Nat} {d : D}, pls ds = true → ds[j]? = some d → pl d = true
  | c :: cs, 0, d, h, e => by simp at e; subst e; simp only [pls, Bool.and_eq_true] at h; exact h.1
  | c :: cs, j + 1, d, h, e => by simp at e; simp only [pls, Bool.and_eq_true] at h; exact pls_get h.2 e
  | [], _, _, _, e => by simp at e
theorem deps_get : ∀ {ds : List D} {j : Nat} {d : D}, ds[j]? = some d → dep d ≤ deps ds
  | c :: cs, 0, d, e => by simp at e; subst e; simp only [deps]; omega
  | c :: cs, j + 1, d, e => by simp at e; have := deps_get e; simp only [deps]; omega
  | [], _, _, e => by simp at e
theorem lt_lists {K : PySem.W.Frag} {H : Hp} {X : Cx} {pins : List (Addr × Obj)} {σ : L2.St} {s : Shared} (I : Inv X pins σ H s) (hK : K = X.K) {ds : List D} {v : V} {u : Value} (h : Rep K (VL.lift H) (.lst ds) v) (r : RelV v u) :
    ∃ a xs its, u = .ref a ∧ v = .ref a ∧ VL.lift H a = some (.lst xs) ∧ s.heap.IsList a its ∧ Vals xs its.toList ∧ Reps K (VL.lift H) ds xs ∧ its.size = ds.length := by
  subst hK
  simp only [Rep] at h
  obtain ⟨a, xs, rfl, h1, z, h2⟩ := h
  cases r
  obtain ⟨its, rv, pl, _⟩ := I.list (a := a) (xs := xs) (.inl (lift_rd h1))
  refine ⟨a, xs, its.toArray, rfl, rfl, h1, pl.isList, by simpa using rv, h2, ?_⟩
  have := rv.length; have := h2.len; simp; omega
theorem lt_tups {K : PySem.W.Frag} {H : Hp} {X : Cx} {pins : List (Addr × Obj)} {σ : L2.St} {s : Shared} (I : Inv X pins σ H s) (hK : K = X.K) {ds : List D} {v : V} {u : Value} (h : Rep K (VL.lift H) (.tup ds) v) (r : RelV v u) :
    ∃ a xs its, u = .ref a ∧ v = .ref a ∧ VL.lift H a = some (.tup xs) ∧ s.heap.IsTuple a its ∧ Vals xs its.toList ∧ Reps K (VL.lift H) ds xs ∧ its.size = ds.length := by
  subst hK
  simp only [Rep] at h
  obtain ⟨a, xs, rfl, h1, z, h2⟩ := h
  cases r
  obtain ⟨its, rv, pl, _⟩ := I.tuple (a := a) (xs := xs) (.inl (lift_rd h1))
  refine ⟨a, xs, its.toArray, rfl, rfl, h1, pl, by simpa using rv, h2, ?_⟩
  have := rv.length; have := h2.len; simp; omega
/-- an item of the one beside that of the other -/
theorem items_at {K : PySem.W.Frag} {G : Hp} {ds : List D} {xs : List V} {its : Array Value} (r : Reps K G ds xs) (rv : Vals xs its.toList) {j : Nat} (h : j < its.size) (hl : its.size = ds.length) :
    ∃ d x, ds[j]? = some d ∧ Rep K G d x ∧ RelV x its[j] ∧ d ∈ ds := by
  have hj : j < ds.length := by omega
  obtain ⟨x, hx, rp⟩ := r.get (List.getElem?_eq_getElem hj)
  obtain ⟨u, hu, ru⟩ := rv.get hx
  have : u = its[j] := by simpa [h] using hu.symm
  subst this
  exact ⟨_, x, List.getElem?_eq_getElem hj, rp, ru, List.getElem_mem _⟩
theorem eqAtD {X : Cx} {pins : List (Addr × Obj)} {σ : L2.St} {H : Hp} {s : Shared} (I : Inv X pins σ H s) (n : Nat) : ∀ {d e : D} {v y : V} {u w : Value} {A : Around}, sizeOf d ≤ n → Rep X.K (VL.lift H) d v → Rep X.K (VL.lift H) e y → RelV v u → RelV y w → pl d = true → pl e = true → A.units + dep d < cLine → SeqAt.EqAt A s u w (deq d e) := by
  induction n with
  | zero => intro d e v y u w A hn; exfalso; cases d <;> simp at hn <;> omega
  | succ n ih =>
    intro d e v y u w A hn h h' r r' p p' hu
    have hu0 : A.units < cLine := by omega
    have flat : ∀ {f g : V}, Rep X.K (VL.lift H) d f → Rep X.K (VL.lift H) e g → True := fun _ _ => trivial
    cases d with
    | dct _ => simp [pl] at p
    | fzl _ => simp [pl] at p
    | exc _ _ => simp [pl] at p
    | box _ _ => simp [pl] at p
    | non =>
      simp only [Rep] at h; subst h; cases r
      cases e with
      | dct _ => simp [pl] at p'
      | fzl _ => simp [pl] at p'
      | exc _ _ => simp [pl] at p'
      | box _ _ => simp [pl] at p'
      | non => simp only [Rep] at h'; subst h'; cases r'; exact SeqAt.EqAt.same _
      | bl b => simp only [Rep] at h'; subst h'; cases r'; exact SeqAt.EqAt.none_bool b
      | int b => simp only [Rep] at h'; subst h'; obtain ⟨t, rfl⟩ := r'; exact SeqAt.EqAt.none_int b t
      | str b => simp only [Rep] at h'; obtain ⟨rfl, _⟩ := h'; obtain ⟨t, rfl⟩ := r'; exact SeqAt.EqAt.none_str b t
      | lst b => obtain ⟨a, xs, its, rfl, _, _, hl, _⟩ := lt_lists I rfl h' r'; exact SeqAt.EqAt.none_list hl hu0
      | tup b => obtain ⟨a, xs, its, rfl, _, _, hl, _⟩ := lt_tups I rfl h' r'; exact SeqAt.EqAt.none_tuple hl hu0
    | bl a =>
      simp only [Rep] at h; subst h; cases r
      cases e with
      | dct _ => simp [pl] at p'
      | fzl _ => simp [pl] at p'
      | exc _ _ => simp [pl] at p'
      | box _ _ => simp [pl] at p'
      | non => simp only [Rep] at h'; subst h'; cases r'; exact SeqAt.EqAt.bool_none a
      | bl b => simp only [Rep] at h'; subst h'; cases r'; exact SeqAt.EqAt.bool_bool a b
      | int b => simp only [Rep] at h'; subst h'; obtain ⟨t, rfl⟩ := r'; exact SeqAt.EqAt.bool_int a b t
      | str b => simp only [Rep] at h'; obtain ⟨rfl, _⟩ := h'; obtain ⟨t, rfl⟩ := r'; exact SeqAt.EqAt.bool_str a b t
      | lst b => obtain ⟨_, xs, its, rfl, _, _, hl, _⟩ := lt_lists I rfl h' r'; exact SeqAt.EqAt.bool_list a hl hu0
      | tup b => obtain ⟨_, xs, its, rfl, _, _, hl, _⟩ := lt_tups I rfl h' r'; exact SeqAt.EqAt.bool_tuple a hl hu0
    | int a =>
      simp only [Rep] at h; subst h; obtain ⟨t0, rfl⟩ := r
      cases e with
      | dct _ => simp [pl] at p'
      | fzl _ => simp [pl] at p'
      | exc _ _ => simp [pl] at p'
      | box _ _ => simp [pl] at p'
      | non => simp only [Rep] at h'; subst h'; cases r'; exact SeqAt.EqAt.int_none a t0
      | bl b => simp only [Rep] at h'; subst h'; cases r'; exact SeqAt.EqAt.int_bool a t0 b
      | int b => simp only [Rep] at h'; subst h'; obtain ⟨t, rfl⟩ := r'; exact SeqAt.EqAt.int_int a t0 b t
      | str b => simp only [Rep] at h'; obtain ⟨rfl, _⟩ := h'; obtain ⟨t, rfl⟩ := r'; exact SeqAt.EqAt.int_str a t0 b t
      | lst b => obtain ⟨_, xs, its, rfl, _, _, hl, _⟩ := lt_lists I rfl h' r'; exact SeqAt.EqAt.int_list a t0 hl hu0
      | tup b => obtain ⟨_, xs, its, rfl, _, _, hl, _⟩ := lt_tups I rfl h' r'; exact SeqAt.EqAt.int_tuple a t0 hl hu0
    | str a =>
      simp only [Rep] at h; obtain ⟨rfl, _⟩ := h; obtain ⟨t0, rfl⟩ := r
      cases e with
      | dct _ => simp [pl] at p'
      | fzl _ => simp [pl] at p'
      | exc _ _ => simp [pl] at p'
      | box _ _ => simp [pl] at p'
      | non => simp only [Rep] at h'; subst h'; cases r'; exact SeqAt.EqAt.str_none a t0
      | bl b => simp only [Rep] at h'; subst h'; cases r'; exact SeqAt.EqAt.str_bool a t0 b
      | int b => simp only [Rep] at h'; subst h'; obtain ⟨t, rfl⟩ := r'; exact SeqAt.EqAt.str_int a t0 b t
      | str b => simp only [Rep] at h'; obtain ⟨rfl, _⟩ := h'; obtain ⟨t, rfl⟩ := r'; exact SeqAt.EqAt.str_str a t0 b t
      | lst b => obtain ⟨_, xs, its, rfl, _, _, hl, _⟩ := lt_lists I rfl h' r'; exact SeqAt.EqAt.str_list a t0 hl hu0
      | tup b => obtain ⟨_, xs, its, rfl, _, _, hl, _⟩ := lt_tups I rfl h' r'; exact SeqAt.EqAt.str_tuple a t0 hl hu0
    | lst ds =>
      obtain ⟨l, xs, its, rfl, rfl, hG, hl, rv, rs, hsz⟩ := lt_lists I rfl h r
      cases e with
      | dct _ => simp [pl] at p'
      | fzl _ => simp [pl] at p'
      | exc _ _ => simp [pl] at p'
      | box _ _ => simp [pl] at p'
      | non => simp only [Rep] at h'; subst h'; cases r'; exact SeqAt.EqAt.list_none hl hu0
      | bl b => simp only [Rep] at h'; subst h'; cases r'; exact SeqAt.EqAt.list_bool b hl hu0
      | int b => simp only [Rep] at h'; subst h'; obtain ⟨t, rfl⟩ := r'; exact SeqAt.EqAt.list_int b t hl hu0
      | str b => simp only [Rep] at h'; obtain ⟨rfl, _⟩ := h'; obtain ⟨t, rfl⟩ := r'; exact SeqAt.EqAt.list_str b t hl hu0
      | tup b => obtain ⟨_, _, its', rfl, _, _, hl', _⟩ := lt_tups I rfl h' r'; exact SeqAt.EqAt.list_tuple hl hl' hu0
      | lst es =>
        obtain ⟨l', xs', its', rfl, rfl, hG', hl', rv', rs', hsz'⟩ := lt_lists I rfl h' r'
        by_cases hne : l = l'
        · subst hne
          rw [deq_same h h' p p']; exact SeqAt.EqAt.same _
        · refine SeqAt.EqAt.of_refs hne ?_
          simp only [deq]
          by_cases hz : ds.length = es.length
          · rw [deqs_all hz, ← hsz]
            refine SeqAt.RcAt.lists hl hl' (by omega) hu0 fun j h1 h2 => ?_
            obtain ⟨d1, x1, e1, rp1, ru1, m1⟩ := items_at rs rv h1 hsz
            obtain ⟨d2, x2, e2, rp2, ru2, m2⟩ := items_at rs' rv' h2 hsz'
            have g1 : ds.getD j .non = d1 := by simp [List.getD, e1]
            have g2 : es.getD j .non = d2 := by simp [List.getD, e2]
            show SeqAt.EqAt A.in1 s its[j] its'[j] (deq (ds.getD j .non) (es.getD j .non))
            rw [g1, g2]
            have hd : dep d1 ≤ deps ds := deps_get e1
            refine ih ?_ rp1 rp2 ru1 ru2 (pls_get (by simpa [pl] using p) e1) (pls_get (by simpa [pl] using p') e2) (by simp only [dep] at hu; show A.units + 1 + _ < cLine; omega)
            have := List.sizeOf_lt_of_mem m1
            simp at hn; omega
          · rw [deqs_len hz]
            exact SeqAt.RcAt.lists_lengths hl hl' (by simp; omega) hu0
    | tup ds =>
      obtain ⟨l, xs, its, rfl, rfl, hG, hl, rv, rs, hsz⟩ := lt_tups I rfl h r
      cases e with
      | dct _ => simp [pl] at p'
      | fzl _ => simp [pl] at p'
      | exc _ _ => simp [pl] at p'
      | box _ _ => simp [pl] at p'
      | non => simp only [Rep] at h'; subst h'; cases r'; exact SeqAt.EqAt.tuple_none hl hu0
      | bl b => simp only [Rep] at h'; subst h'; cases r'; exact SeqAt.EqAt.tuple_bool b hl hu0
      | int b => simp only [Rep] at h'; subst h'; obtain ⟨t, rfl⟩ := r'; exact SeqAt.EqAt.tuple_int b t hl hu0
      | str b => simp only [Rep] at h'; obtain ⟨rfl, _⟩ := h'; obtain ⟨t, rfl⟩ := r'; exact SeqAt.EqAt.tuple_str b t hl hu0
      | lst b => obtain ⟨_, _, its', rfl, _, _, hl', _⟩ := lt_lists I rfl h' r'; exact SeqAt.EqAt.tuple_list hl hl' hu0
      | tup es =>
        obtain ⟨l', xs', its', rfl, rfl, hG', hl', rv', rs', hsz'⟩ := lt_tups I rfl h' r'
        by_cases hne : l = l'
        · subst hne
          rw [deq_same h h' p p']; exact SeqAt.EqAt.same _
        · refine SeqAt.EqAt.of_refs hne ?_
          simp only [deq]
          have key := SeqAt.RcAt.tuples (A := A) hl hl' hu0 (e := fun j => deq (ds.getD j .non) (es.getD j .non)) fun j h1 h2 => by
            obtain ⟨d1, x1, e1, rp1, ru1, m1⟩ := items_at rs rv h1 hsz
            obtain ⟨d2, x2, e2, rp2, ru2, m2⟩ := items_at rs' rv' h2 hsz'
            have g1 : ds.getD j .non = d1 := by simp [List.getD, e1]
            have g2 : es.getD j .non = d2 := by simp [List.getD, e2]
            show SeqAt.EqAt A.in1 s its[j] its'[j] (deq (ds.getD j .non) (es.getD j .non))
            rw [g1, g2]
            have hd : dep d1 ≤ deps ds := deps_get e1
            refine ih ?_ rp1 rp2 ru1 ru2 (pls_get (by simpa [pl] using p) e1) (pls_get (by simpa [pl] using p') e2) (by simp only [dep] at hu; show A.units + 1 + _ < cLine; omega)
            have := List.sizeOf_lt_of_mem m1
            simp at hn; omega
          have e : deqs ds es = ((List.range (min its.size its'.size)).all (fun j => deq (ds.getD j .non) (es.getD j .non)) && its.size == its'.size) := by
            by_cases hz : ds.length = es.length
            · rw [deqs_all hz, hsz, hsz', ← hz, Nat.min_self]; simp
            · rw [deqs_len hz, hsz, hsz']
              have : (ds.length == es.length) = false := by simpa using hz
              rw [this, Bool.and_false]
          rw [e]; exact key
end VL
set_option linter.all false
set_option maxRecDepth 100000
set_option maxHeartbeats 4000000
namespace VL
open PySem PySem.Spec PyProof.Rows L2
theorem rcAtD {X : Cx} {pins : List (Addr × Obj)} {σ : L2.St} {H : Hp} {s : Shared} (I : Inv X pins σ H s) {d e : D} {v y : V} {u w : Value} {A : Around} (h : Rep X.K (VL.lift H) d v) (h' : Rep X.K (VL.lift H) e y) (r : RelV v u) (r' : RelV y w) (p : pl d = true) (p' : pl e = true) (hu : A.units + dep d < cLine) : SeqAt.RcAt A s u w ( deq d e) := by
  have hu0 : A.units < cLine := by omega
  have ddd : ∀ {ds es : List D} {xs xs' : List V} {its its' : Array Value}, Reps X.K (VL.lift H) ds xs → Reps X.K (VL.lift H) es xs' → Vals xs its.toList → Vals xs' its'.toList → its.size = ds.length → its'.size = es.length → pls ds = true → pls es = true → A.units + (deps ds + 1) < cLine →
      ∀ j (h1 : j < its.size) (h2 : j < its'.size), SeqAt.EqAt A.in1 s its[j] its'[j] (deq (ds.getD j .non) (es.getD j .non)) := fun {ds es xs xs' its its'} rs rs' rv rv' hsz hsz' p p' hu j h1 h2 => by
    obtain ⟨d1, x1, e1, rp1, ru1, m1⟩ := items_at rs rv h1 hsz
    obtain ⟨d2, x2, e2, rp2, ru2, m2⟩ := items_at rs' rv' h2 hsz'
    have g1 : ds.getD j .non = d1 := by simp [List.getD, e1]
    have g2 : es.getD j .non = d2 := by simp [List.getD, e2]
    rw [g1, g2]
    have hd : dep d1 ≤ deps ds := deps_get e1
    exact eqAtD I _ (Nat.le_refl _) rp1 rp2 ru1 ru2 (pls_get p e1) (pls_get p' e2) (by show A.units + 1 + _ < cLine; omega)
  cases d with
  | dct _ => simp [pl] at p
  | fzl _ => simp [pl] at p
  | exc _ _ => simp [pl] at p
  | box _ _ => simp [pl] at p
  | non =>
    simp only [Rep] at h; subst h; cases r
    cases e with
    | dct _ => simp [pl] at p'
    | fzl _ => simp [pl] at p'
    | exc _ _ => simp [pl] at p'
    | box _ _ => simp [pl] at p'
    | non => simp only [Rep] at h'; subst h'; cases r'; exact SeqAt.RcAt.none_none
    | bl b => simp only [Rep] at h'; subst h'; cases r'; exact SeqAt.RcAt.none_bool b
    | int b => simp only [Rep] at h'; subst h'; obtain ⟨t1, rfl⟩ := r'; exact SeqAt.RcAt.none_int b t1
    | str b => simp only [Rep] at h'; obtain ⟨rfl, _⟩ := h'; obtain ⟨t1, rfl⟩ := r'; exact SeqAt.RcAt.none_str b t1
    | lst b => obtain ⟨l', xs', its', rfl, rfl, hG', hl', rv', rs', hsz'⟩ := lt_lists I rfl h' r'; exact SeqAt.RcAt.none_list hl' hu0
    | tup b => obtain ⟨l', xs', its', rfl, rfl, hG', hl', rv', rs', hsz'⟩ := lt_tups I rfl h' r'; exact SeqAt.RcAt.none_tuple hl' hu0
  | bl a =>
    simp only [Rep] at h; subst h; cases r
    cases e with
    | dct _ => simp [pl] at p'
    | fzl _ => simp [pl] at p'
    | exc _ _ => simp [pl] at p'
    | box _ _ => simp [pl] at p'
    | non => simp only [Rep] at h'; subst h'; cases r'; exact SeqAt.RcAt.bool_none a
    | bl b => simp only [Rep] at h'; subst h'; cases r'; exact SeqAt.RcAt.bool_bool a b
    | int b => simp only [Rep] at h'; subst h'; obtain ⟨t1, rfl⟩ := r'; exact SeqAt.RcAt.bool_int a b t1
    | str b => simp only [Rep] at h'; obtain ⟨rfl, _⟩ := h'; obtain ⟨t1, rfl⟩ := r'; exact SeqAt.RcAt.bool_str a b t1
    | lst b => obtain ⟨l', xs', its', rfl, rfl, hG', hl', rv', rs', hsz'⟩ := lt_lists I rfl h' r'; exact SeqAt.RcAt.bool_list a hl' hu0
    | tup b => obtain ⟨l', xs', its', rfl, rfl, hG', hl', rv', rs', hsz'⟩ := lt_tups I rfl h' r'; exact SeqAt.RcAt.bool_tuple a hl' hu0
  | int a =>
    simp only [Rep] at h; subst h; obtain ⟨t0, rfl⟩ := r
    cases e with
    | dct _ => simp [pl] at p'
    | fzl _ => simp [pl] at p'
    | exc _ _ => simp [pl] at p'
    | box _ _ => simp [pl] at p'
    | non => simp only [Rep] at h'; subst h'; cases r'; exact SeqAt.RcAt.int_none a t0
    | bl b => simp only [Rep] at h'; subst h'; cases r'; exact SeqAt.RcAt.int_bool a t0 b
    | int b => simp only [Rep] at h'; subst h'; obtain ⟨t1, rfl⟩ := r'; exact SeqAt.RcAt.int_int a t0 b t1
    | str b => simp only [Rep] at h'; obtain ⟨rfl, _⟩ := h'; obtain ⟨t1, rfl⟩ := r'; exact SeqAt.RcAt.int_str a t0 b t1
    | lst b => obtain ⟨l', xs', its', rfl, rfl, hG', hl', rv', rs', hsz'⟩ := lt_lists I rfl h' r'; exact SeqAt.RcAt.int_list a t0 hl' hu0
    | tup b => obtain ⟨l', xs', its', rfl, rfl, hG', hl', rv', rs', hsz'⟩ := lt_tups I rfl h' r'; exact SeqAt.RcAt.int_tuple a t0 hl' hu0
  | str a =>
    simp only [Rep] at h; obtain ⟨rfl, _⟩ := h; obtain ⟨t0, rfl⟩ := r
    cases e with
    | dct _ => simp [pl] at p'
    | fzl _ => simp [pl] at p'
    | exc _ _ => simp [pl] at p'
    | box _ _ => simp [pl] at p'
    | non => simp only [Rep] at h'; subst h'; cases r'; exact SeqAt.RcAt.str_none a t0
    | bl b => simp only [Rep] at h'; subst h'; cases r'; exact SeqAt.RcAt.str_bool a t0 b
    | int b => simp only [Rep] at h'; subst h'; obtain ⟨t1, rfl⟩ := r'; exact SeqAt.RcAt.str_int a t0 b t1
    | str b => simp only [Rep] at h'; obtain ⟨rfl, _⟩ := h'; obtain ⟨t1, rfl⟩ := r'; exact SeqAt.RcAt.str_str a t0 b t1
    | lst b => obtain ⟨l', xs', its', rfl, rfl, hG', hl', rv', rs', hsz'⟩ := lt_lists I rfl h' r'; exact SeqAt.RcAt.str_list a t0 hl' hu0
    | tup b => obtain ⟨l', xs', its', rfl, rfl, hG', hl', rv', rs', hsz'⟩ := lt_tups I rfl h' r'; exact SeqAt.RcAt.str_tuple a t0 hl' hu0
  | lst a =>
    obtain ⟨l, xs, its, rfl, rfl, hG, hl, rv, rs, hsz⟩ := lt_lists I rfl h r
    cases e with
    | dct _ => simp [pl] at p'
    | fzl _ => simp [pl] at p'
    | exc _ _ => simp [pl] at p'
    | box _ _ => simp [pl] at p'
    | non => simp only [Rep] at h'; subst h'; cases r'; exact SeqAt.RcAt.list_none hl hu0
    | bl b => simp only [Rep] at h'; subst h'; cases r'; exact SeqAt.RcAt.list_bool b hl hu0
    | int b => simp only [Rep] at h'; subst h'; obtain ⟨t1, rfl⟩ := r'; exact SeqAt.RcAt.list_int b t1 hl hu0
    | str b => simp only [Rep] at h'; obtain ⟨rfl, _⟩ := h'; obtain ⟨t1, rfl⟩ := r'; exact SeqAt.RcAt.list_str b t1 hl hu0
    | lst b => 
      obtain ⟨l', xs', its', rfl, rfl, hG', hl', rv', rs', hsz'⟩ := lt_lists I rfl h' r'
      simp only [deq]
      by_cases hz : a.length = b.length
      · rw [deqs_all hz, ← hsz]
        exact SeqAt.RcAt.lists hl hl' (by omega) hu0 (ddd rs rs' rv rv' hsz hsz' (by simpa [pl] using p) (by simpa [pl] using p') (by simp only [dep] at hu; omega))
      · rw [deqs_len hz]
        exact SeqAt.RcAt.lists_lengths hl hl' (by simp; omega) hu0
    | tup b => obtain ⟨l', xs', its', rfl, rfl, hG', hl', rv', rs', hsz'⟩ := lt_tups I rfl h' r'; exact SeqAt.RcAt.list_tuple hl hl' hu0
  | tup a =>
    obtain ⟨l, xs, its, rfl, rfl, hG, hl, rv, rs, hsz⟩ := lt_tups I rfl h r
    cases e with
    | dct _ => simp [pl] at p'
    | fzl _ => simp [pl] at p'
    | exc _ _ => simp [pl] at p'
    | box _ _ => simp [pl] at p'
    | non => simp only [Rep] at h'; subst h'; cases r'; exact SeqAt.RcAt.tuple_none hl hu0
    | bl b => simp only [Rep] at h'; subst h'; cases r'; exact SeqAt.RcAt.tuple_bool b hl hu0
    | int b => simp only [Rep] at h'; subst h'; obtain ⟨t1, rfl⟩ := r'; exact SeqAt.RcAt.tuple_int b t1 hl hu0
    | str b => simp only [Rep] at h'; obtain ⟨rfl, _⟩ := h'; obtain ⟨t1, rfl⟩ := r'; exact SeqAt.RcAt.tuple_str b t1 hl hu0
    | lst b => obtain ⟨l', xs', its', rfl, rfl, hG', hl', rv', rs', hsz'⟩ := lt_lists I rfl h' r'; exact SeqAt.RcAt.tuple_list hl hl' hu0
    | tup b => 
      obtain ⟨l', xs', its', rfl, rfl, hG', hl', rv', rs', hsz'⟩ := lt_tups I rfl h' r'
      simp only [deq]
      have key := SeqAt.RcAt.tuples (A := A) hl hl' hu0 (e := fun j => deq (a.getD j .non) (b.getD j .non)) (ddd rs rs' rv rv' hsz hsz' (by simpa [pl] using p) (by simpa [pl] using p') (by simp only [dep] at hu; omega))
      have e : deqs a b = ((List.range (min its.size its'.size)).all (fun j => deq (a.getD j .non) (b.getD j .non)) && its.size == its'.size) := by
        by_cases hz : a.length = b.length
        · rw [deqs_all hz, hsz, hsz', ← hz, Nat.min_self]; simp
        · rw [deqs_len hz, hsz, hsz']
          have : (a.length == b.length) = false := by simpa using hz
          rw [this, Bool.and_false]
      rw [e]; exact key
theorem rcNeAtD {X : Cx} {pins : List (Addr × Obj)} {σ : L2.St} {H : Hp} {s : Shared} (I : Inv X pins σ H s) {d e : D} {v y : V} {u w : Value} {A : Around} (h : Rep X.K (VL.lift H) d v) (h' : Rep X.K (VL.lift H) e y) (r : RelV v u) (r' : RelV y w) (p : pl d = true) (p' : pl e = true) (hu : A.units + dep d < cLine) : SeqAt.RcNeAt A s u w (! deq d e) := by
  have hu0 : A.units < cLine := by omega
  have ddd : ∀ {ds es : List D} {xs xs' : List V} {its its' : Array Value}, Reps X.K (VL.lift H) ds xs → Reps X.K (VL.lift H) es xs' → Vals xs its.toList → Vals xs' its'.toList → its.size = ds.length → its'.size = es.length → pls ds = true → pls es = true → A.units + (deps ds + 1) < cLine →
      ∀ j (h1 : j < its.size) (h2 : j < its'.size), SeqAt.EqAt A.in1 s its[j] its'[j] (deq (ds.getD j .non) (es.getD j .non)) := fun {ds es xs xs' its its'} rs rs' rv rv' hsz hsz' p p' hu j h1 h2 => by
    obtain ⟨d1, x1, e1, rp1, ru1, m1⟩ := items_at rs rv h1 hsz
    obtain ⟨d2, x2, e2, rp2, ru2, m2⟩ := items_at rs' rv' h2 hsz'
    have g1 : ds.getD j .non = d1 := by simp [List.getD, e1]
    have g2 : es.getD j .non = d2 := by simp [List.getD, e2]
    rw [g1, g2]
    have hd : dep d1 ≤ deps ds := deps_get e1
    exact eqAtD I _ (Nat.le_refl _) rp1 rp2 ru1 ru2 (pls_get p e1) (pls_get p' e2) (by show A.units + 1 + _ < cLine; omega)
  cases d with
  | dct _ => simp [pl] at p
  | fzl _ => simp [pl] at p
  | exc _ _ => simp [pl] at p
  | box _ _ => simp [pl] at p
  | non =>
    simp only [Rep] at h; subst h; cases r
    cases e with
    | dct _ => simp [pl] at p'
    | fzl _ => simp [pl] at p'
    | exc _ _ => simp [pl] at p'
    | box _ _ => simp [pl] at p'
    | non => simp only [Rep] at h'; subst h'; cases r'; exact SeqAt.RcNeAt.none_none
    | bl b => simp only [Rep] at h'; subst h'; cases r'; exact SeqAt.RcNeAt.none_bool b
    | int b => simp only [Rep] at h'; subst h'; obtain ⟨t1, rfl⟩ := r'; exact SeqAt.RcNeAt.none_int b t1
    | str b => simp only [Rep] at h'; obtain ⟨rfl, _⟩ := h'; obtain ⟨t1, rfl⟩ := r'; exact SeqAt.RcNeAt.none_str b t1
    | lst b => obtain ⟨l', xs', its', rfl, rfl, hG', hl', rv', rs', hsz'⟩ := lt_lists I rfl h' r'; exact SeqAt.RcNeAt.none_list hl' hu0
    | tup b => obtain ⟨l', xs', its', rfl, rfl, hG', hl', rv', rs', hsz'⟩ := lt_tups I rfl h' r'; exact SeqAt.RcNeAt.none_tuple hl' hu0
  | bl a =>
    simp only [Rep] at h; subst h; cases r
    cases e with
    | dct _ => simp [pl] at p'
    | fzl _ => simp [pl] at p'
    | exc _ _ => simp [pl] at p'
    | box _ _ => simp [pl] at p'
    | non => simp only [Rep] at h'; subst h'; cases r'; exact SeqAt.RcNeAt.bool_none a
    | bl b => simp only [Rep] at h'; subst h'; cases r'; exact SeqAt.RcNeAt.bool_bool a b
    | int b => simp only [Rep] at h'; subst h'; obtain ⟨t1, rfl⟩ := r'; exact SeqAt.RcNeAt.bool_int a b t1
    | str b => simp only [Rep] at h'; obtain ⟨rfl, _⟩ := h'; obtain ⟨t1, rfl⟩ := r'; exact SeqAt.RcNeAt.bool_str a b t1
    | lst b => obtain ⟨l', xs', its', rfl, rfl, hG', hl', rv', rs', hsz'⟩ := lt_lists I rfl h' r'; exact SeqAt.RcNeAt.bool_list a hl' hu0
    | tup b => obtain ⟨l', xs', its', rfl, rfl, hG', hl', rv', rs', hsz'⟩ := lt_tups I rfl h' r'; exact SeqAt.RcNeAt.bool_tuple a hl' hu0
  | int a =>
    simp only [Rep] at h; subst h; obtain ⟨t0, rfl⟩ := r
    cases e with
    | dct _ => simp [pl] at p'
    | fzl _ => simp [pl] at p'
    | exc _ _ => simp [pl] at p'
    | box _ _ => simp [pl] at p'
    | non => simp only [Rep] at h'; subst h'; cases r'; exact SeqAt.RcNeAt.int_none a t0
    | bl b => simp only [Rep] at h'; subst h'; cases r'; exact SeqAt.RcNeAt.int_bool a t0 b
    | int b => simp only [Rep] at h'; subst h'; obtain ⟨t1, rfl⟩ := r'; exact SeqAt.RcNeAt.int_int a t0 b t1
    | str b => simp only [Rep] at h'; obtain ⟨rfl, _⟩ := h'; obtain ⟨t1, rfl⟩ := r'; exact SeqAt.RcNeAt.int_str a t0 b t1
    | lst b => obtain ⟨l', xs', its', rfl, rfl, hG', hl', rv', rs', hsz'⟩ := lt_lists I rfl h' r'; exact SeqAt.RcNeAt.int_list a t0 hl' hu0
    | tup b => obtain ⟨l', xs', its', rfl, rfl, hG', hl', rv', rs', hsz'⟩ := lt_tups I rfl h' r'; exact SeqAt.RcNeAt.int_tuple a t0 hl' hu0
  | str a =>
    simp only [Rep] at h; obtain ⟨rfl, _⟩ := h; obtain ⟨t0, rfl⟩ := r
    cases e with
    | dct _ => simp [pl] at p'
    | fzl _ => simp [pl] at p'
    | exc _ _ => simp [pl] at p'
    | box _ _ => simp [pl] at p'
    | non => simp only [Rep] at h'; subst h'; cases r'; exact SeqAt.RcNeAt.str_none a t0
    | bl b => simp only [Rep] at h'; subst h'; cases r'; exact SeqAt.RcNeAt.str_bool a t0 b
    | int b => simp only [Rep] at h'; subst h'; obtain ⟨t1, rfl⟩ := r'; exact SeqAt.RcNeAt.str_int a t0 b t1
    | str b => simp only [Rep] at h'; obtain ⟨rfl, _⟩ := h'; obtain ⟨t1, rfl⟩ := r'; exact SeqAt.RcNeAt.str_str a t0 b t1
    | lst b => obtain ⟨l', xs', its', rfl, rfl, hG', hl', rv', rs', hsz'⟩ := lt_lists I rfl h' r'; exact SeqAt.RcNeAt.str_list a t0 hl' hu0
    | tup b => obtain ⟨l', xs', its', rfl, rfl, hG', hl', rv', rs', hsz'⟩ := lt_tups I rfl h' r'; exact SeqAt.RcNeAt.str_tuple a t0 hl' hu0
  | lst a =>
    obtain ⟨l, xs, its, rfl, rfl, hG, hl, rv, rs, hsz⟩ := lt_lists I rfl h r
    cases e with
    | dct _ => simp [pl] at p'
    | fzl _ => simp [pl] at p'
    | exc _ _ => simp [pl] at p'
    | box _ _ => simp [pl] at p'
    | non => simp only [Rep] at h'; subst h'; cases r'; exact SeqAt.RcNeAt.list_none hl hu0
    | bl b => simp only [Rep] at h'; subst h'; cases r'; exact SeqAt.RcNeAt.list_bool b hl hu0
    | int b => simp only [Rep] at h'; subst h'; obtain ⟨t1, rfl⟩ := r'; exact SeqAt.RcNeAt.list_int b t1 hl hu0
    | str b => simp only [Rep] at h'; obtain ⟨rfl, _⟩ := h'; obtain ⟨t1, rfl⟩ := r'; exact SeqAt.RcNeAt.list_str b t1 hl hu0
    | lst b => 
      obtain ⟨l', xs', its', rfl, rfl, hG', hl', rv', rs', hsz'⟩ := lt_lists I rfl h' r'
      simp only [deq]
      by_cases hz : a.length = b.length
      · rw [deqs_all hz, ← hsz]
        exact SeqAt.RcNeAt.lists hl hl' (by omega) hu0 (ddd rs rs' rv rv' hsz hsz' (by simpa [pl] using p) (by simpa [pl] using p') (by simp only [dep] at hu; omega))
      · rw [deqs_len hz]
        exact SeqAt.RcNeAt.lists_lengths hl hl' (by simp; omega) hu0
    | tup b => obtain ⟨l', xs', its', rfl, rfl, hG', hl', rv', rs', hsz'⟩ := lt_tups I rfl h' r'; exact SeqAt.RcNeAt.list_tuple hl hl' hu0
  | tup a =>
    obtain ⟨l, xs, its, rfl, rfl, hG, hl, rv, rs, hsz⟩ := lt_tups I rfl h r
    cases e with
    | dct _ => simp [pl] at p'
    | fzl _ => simp [pl] at p'
    | exc _ _ => simp [pl] at p'
    | box _ _ => simp [pl] at p'
    | non => simp only [Rep] at h'; subst h'; cases r'; exact SeqAt.RcNeAt.tuple_none hl hu0
    | bl b => simp only [Rep] at h'; subst h'; cases r'; exact SeqAt.RcNeAt.tuple_bool b hl hu0
    | int b => simp only [Rep] at h'; subst h'; obtain ⟨t1, rfl⟩ := r'; exact SeqAt.RcNeAt.tuple_int b t1 hl hu0
    | str b => simp only [Rep] at h'; obtain ⟨rfl, _⟩ := h'; obtain ⟨t1, rfl⟩ := r'; exact SeqAt.RcNeAt.tuple_str b t1 hl hu0
    | lst b => obtain ⟨l', xs', its', rfl, rfl, hG', hl', rv', rs', hsz'⟩ := lt_lists I rfl h' r'; exact SeqAt.RcNeAt.tuple_list hl hl' hu0
    | tup b => 
      obtain ⟨l', xs', its', rfl, rfl, hG', hl', rv', rs', hsz'⟩ := lt_tups I rfl h' r'
      simp only [deq]
      have key := SeqAt.RcNeAt.tuples (A := A) hl hl' hu0 (e := fun j => deq (a.getD j .non) (b.getD j .non)) (ddd rs rs' rv rv' hsz hsz' (by simpa [pl] using p) (by simpa [pl] using p') (by simp only [dep] at hu; omega))
      have e : deqs a b = ((List.range (min its.size its'.size)).all (fun j => deq (a.getD j .non) (b.getD j .non)) && its.size == its'.size) := by
        by_cases hz : a.length = b.length
        · rw [deqs_all hz, hsz, hsz', ← hz, Nat.min_self]; simp
        · rw [deqs_len hz, hsz, hsz']
          have : (a.length == b.length) = false := by simpa using hz
          rw [this, Bool.and_false]
      rw [e]; exact key

/-- equal, unlike -/
def rEqP (K : PySem.W.Frag) (neg : Bool) : R2 := fun x y H Q => ∃ d e, Rep K (VL.lift H) d x ∧ Rep K (VL.lift H) e y ∧ pl d = true ∧ pl e = true ∧ dep d ≤ 100 ∧ Q (.bl (if neg then !deq d e else deq d e)) H
section
variable {X : Cx} {W : WX} {K : PySem.W.Frag} {F : FrD} {env : En} {σ : L2.St} {G H G' H' : Hp} {d : D} {v : V} {p : Addr} {xs : List V} {ds : List D} {k : Nat}
theorem room200 {A : Around} (hr : Room k A) : A.units + 200 < cLine := by have := hr.un; omega
theorem op_eqP (hu : X.A.units + 200 < cLine) : OpR X (compareOp .Eq) (rEqP X.K false) := by
  intro pins s σ H x y v u Q I rx ry h
  obtain ⟨d, e, hd, he, pd, pe, hz, q⟩ := h
  exact rcAtD I hd he rx ry pd pe (by omega) X.prog X.w _ _ ⟨.bl _, H, I, rfl, q⟩
theorem op_neP (hu : X.A.units + 200 < cLine) : OpR X (compareOp .NotEq) (rEqP X.K true) := by
  intro pins s σ H x y v u Q I rx ry h
  obtain ⟨d, e, hd, he, pd, pe, hz, q⟩ := h
  exact rcNeAtD I hd he rx ry pd pe (by omega) X.prog X.w _ _ ⟨.bl _, H, I, rfl, q⟩
end
end VL
set_option linter.all false
set_option maxRecDepth 100000
set_option maxHeartbeats 4000000
namespace VL
open PySem PySem.Spec PyProof.Rows L2
theorem lift_of {H : Hp} {a : Addr} {u : HO} (h : H a = some u) (hn : ∀ o w, u ≠ .frz o w) : VL.lift H a = some u := by
  unfold VL.lift; rw [h]; split
  · rename_i o w e; cases e; exact absurd rfl (hn o w)
  · rfl
theorem lift_frz {H : Hp} {a : Addr} {o : Obj} {u : HO} (h : H a = some (.frz o u)) : VL.lift H a = some u := by
  unfold VL.lift; rw [h]
theorem rd_lift {H : Hp} {a : Addr} {u : HO} (h : Rd H a u) (hn : ∀ o w, u ≠ .frz o w) : VL.lift H a = some u := by
  rcases h with h | ⟨o, h⟩
  · exact lift_of h hn
  · exact lift_frz h
mutual
theorem Rep.lift {K : PySem.W.Frag} {G H : Hp} (s : Sub G H) : ∀ {d : D} {v : V}, Rep K G d v → Rep K (VL.lift H) d v
  | .non, _, h => h
  | .bl _, _, h => h
  | .int _, _, h => h
  | .str _, _, h => h
  | .lst _, _, h => by
    simp only [Rep] at h ⊢
    obtain ⟨a, xs, e, q, z, r⟩ := h
    exact ⟨a, xs, e, lift_of (s.lst q) (fun _ _ => by simp), z, Reps.lift s r⟩
  | .tup _, _, h => by
    simp only [Rep] at h ⊢
    obtain ⟨a, xs, e, q, z, r⟩ := h
    exact ⟨a, xs, e, lift_of (s.tup q) (fun _ _ => by simp), z, Reps.lift s r⟩
  | .dct _, _, h => by
    simp only [Rep] at h ⊢
    obtain ⟨a, xs, e, q, z, r⟩ := h
    exact ⟨a, xs, e, rd_lift (s.dK q) (fun _ _ => by simp), z, Repk.lift s r⟩
  | .fzl _, _, h => by
    simp only [Rep] at h ⊢
    obtain ⟨a, xs, e, q, z, r⟩ := h
    refine ⟨a, xs, e, ?_, z, Reps.lift s r⟩
    rcases s.sql q with q | q
    · exact .inl (.inl (rd_lift q (fun _ _ => by simp)))
    · exact .inr q
  | .exc _ _, _, h => by
    simp only [Rep] at h ⊢
    obtain ⟨a, d, e, q, z⟩ := h
    have h1 : VL.lift H a = G a := by
      rw [q]
      rcases s _ _ q with q | ⟨⟨kvs, e⟩, _⟩
      · exact lift_of q (fun _ _ => by simp [ExH])
      · simp [ExH] at e
    refine ⟨a, d, e, h1.trans q, ?_⟩
    rcases z with z | ⟨dd, ys, e1, e2, r⟩
    · exact .inl z
    · refine .inr ⟨dd, ys, e1, ?_, Repf.lift s r⟩
      rcases s _ _ e2 with q | ⟨⟨kvs, e⟩, _⟩
      · exact lift_of q (fun _ _ => by simp)
      · cases e
  | .box _ _, _, h => by simp only [Rep] at h
theorem Reps.lift {K : PySem.W.Frag} {G H : Hp} (s : Sub G H) : ∀ {ds : List D} {xs : List V}, Reps K G ds xs → Reps K (VL.lift H) ds xs
  | [], _, h => h
  | _ :: _, _, h => by
    simp only [Reps] at h ⊢
    obtain ⟨x, r, e, h1, h2⟩ := h
    exact ⟨x, r, e, Rep.lift s h1, Reps.lift s h2⟩
theorem Repk.lift {K : PySem.W.Frag} {G H : Hp} (s : Sub G H) : ∀ {ds : List (Key × D)} {xs : List (Key × V)}, Repk K G ds xs → Repk K (VL.lift H) ds xs
  | [], _, h => h
  | (_, _) :: _, _, h => by
    simp only [Repk] at h ⊢
    obtain ⟨x, r, e, h1, h2⟩ := h
    exact ⟨x, r, e, Rep.lift s h1, Repk.lift s h2⟩
theorem Repf.lift {K : PySem.W.Frag} {G H : Hp} (s : Sub G H) : ∀ {ds : List (Str × D)} {xs : List (Str × V)}, Repf K G ds xs → Repf K (VL.lift H) ds xs
  | [], _, h => h
  | (_, _) :: _, _, h => by
    simp only [Repf] at h ⊢
    obtain ⟨x, r, e, h1, h2⟩ := h
    exact ⟨x, r, e, Rep.lift s h1, Repf.lift s h2⟩
end
theorem RdR.lift {K : PySem.W.Frag} {G H : Hp} (s : Sub G H) {d : D} {v : V} (h : RdR K G H d v) (hi : isIns d = false) : Rep K (VL.lift H) d v := by
  rcases h with h | h
  · exact h.lift s
  · cases d with
    | lst ds =>
      obtain ⟨p, xs, rfl, h1, h2, h3, h4⟩ := h
      simp only [Rep]; exact ⟨p, xs, rfl, lift_of h1 (fun _ _ => by simp), h3, h4.lift s⟩
    | dct ds =>
      obtain ⟨p, xs, rfl, h1, h2, h3, h4⟩ := h
      simp only [Rep]; exact ⟨p, xs, rfl, lift_of h1 (fun _ _ => by simp), h3, h4.lift s⟩
    | box C fs => cases hi
    | _ => exact Rep.lift s h
theorem pl_ins {d : D} (h : pl d = true) : isIns d = false := by cases d <;> simp_all [pl, isIns]
section
variable {X : Cx} {W : WX} {K : PySem.W.Frag} {F : FrD} {env : En} {σ : L2.St} {G H G' H' : Hp} {d : D} {v : V} {p : Addr} {xs : List V} {ds : List D} {k : Nat}
/-! ### == -/
def eqOk (d e : D) : Bool := pl d && (pl e && decide (dep d ≤ 100))
/-- also: lists of unlike length, dicts of unlike length, empty ones -/
def eqx (d e : D) : Option Bool := if eqOk d e = true then some (deq d e) else match d, e with
  | .lst ds, .lst es => if ds.length ≠ es.length then some false else none
  | .dct ka, .dct kb => if ka.length ≠ kb.length then some false else if ka.length = 0 then some true else none
  | _, _ => none
def vEq (d e : D) : Option Sv := (eqx d e).map fun b => .sh (.bl b)
def vNe (d e : D) : Option Sv := (eqx d e).map fun b => .sh (.bl (!b))
def rEqX (K : PySem.W.Frag) (neg : Bool) : R2 := fun x y H Q => rEqP K neg x y H Q ∨
  (∃ a b xs ys, x = .ref a ∧ y = .ref b ∧ SqL K H a xs ∧ SqL K H b ys ∧ xs.length ≠ ys.length ∧ Q (.bl neg) H) ∨
  ∃ a b ka kb, x = .ref a ∧ y = .ref b ∧ Rd H a (.dK ka) ∧ Rd H b (.dK kb) ∧ (ka.length = kb.length → ka.length = 0) ∧ Q (.bl (if neg then !decide (ka.length = kb.length) else decide (ka.length = kb.length))) H
theorem hits0 {A : Around} {s : Shared} {ka kb : List (Key × Value)} (h : ka.length = kb.length → ka.length = 0) : ka.length = kb.length → PySem.W.KeqHits A s kb ka true := fun e => by
  have := h e
  have : ka = [] := List.eq_nil_of_length_eq_zero this
  subst this; exact .nil
theorem op_eqX (hu : X.A.units + 200 < cLine) : OpR X (compareOp .Eq) (rEqX X.K false) := by
  intro pins s σ H x y v u Q I rx ry h
  rcases h with h | ⟨a, b, xs, ys, rfl, rfl, ha, hb, hl, q⟩ | ⟨a, b, ka, kb, rfl, rfl, ha, hb, h0, q⟩
  · exact op_eqP hu pins s σ H x y v u Q I rx ry h
  · cases rx; cases ry
    obtain ⟨its, r1, p1, _⟩ := I.list ha
    obtain ⟨its2, r2, p2, _⟩ := I.list hb
    have l1 := r1.length
    have l2 := r2.length
    exact SeqAt.RcAt.lists_lengths p1.isList p2.isList (by simp; omega) (by omega) X.prog X.w _ _ ⟨.bl _, H, I, rfl, q⟩
  · cases rx; cases ry
    obtain ⟨z1, h1, v1, rel1, d1⟩ := dk_rd I.hok ha
    obtain ⟨z2, h2, v2, rel2, d2⟩ := dk_rd I.hok hb
    have l1 := rel1.length
    have l2 := rel2.length
    refine PySem.W.keq_eq (r := true) h1 h2 d1 d2 (by omega) (hits0 (by omega)) ⟨.bl (decide (ka.length = kb.length)), H, I, ?_, q⟩
    rw [← l1, ← l2, Bool.and_true]; show Value.bool _ = Value.bool _; congr 1
theorem op_neX (hu : X.A.units + 200 < cLine) : OpR X (compareOp .NotEq) (rEqX X.K true) := by
  intro pins s σ H x y v u Q I rx ry h
  rcases h with h | ⟨a, b, xs, ys, rfl, rfl, ha, hb, hl, q⟩ | ⟨a, b, ka, kb, rfl, rfl, ha, hb, h0, q⟩
  · exact op_neP hu pins s σ H x y v u Q I rx ry h
  · cases rx; cases ry
    obtain ⟨its, r1, p1, _⟩ := I.list ha
    obtain ⟨its2, r2, p2, _⟩ := I.list hb
    have l1 := r1.length
    have l2 := r2.length
    exact SeqAt.RcNeAt.lists_lengths p1.isList p2.isList (by simp; omega) (by omega) X.prog X.w _ _ ⟨.bl _, H, I, rfl, q⟩
  · cases rx; cases ry
    obtain ⟨z1, h1, v1, rel1, d1⟩ := dk_rd I.hok ha
    obtain ⟨z2, h2, v2, rel2, d2⟩ := dk_rd I.hok hb
    have l1 := rel1.length
    have l2 := rel2.length
    refine PySem.W.keq_ne (r := true) h1 h2 d1 d2 (by omega) (hits0 (by omega)) ⟨.bl (!decide (ka.length = kb.length)), H, I, ?_, q⟩
    rw [← l1, ← l2, Bool.and_true]; show Value.bool _ = Value.bool _; congr 1
theorem snd_eq {neg : Bool} : OpSnd K (rEqX K neg) (if neg then vNe else vEq) := by
  intro F env σ G H x y vx vy res Qh k rx ry e q
  have hc : ∃ b, eqx x y = some b ∧ res = .sh (.bl (if neg then !b else b)) := by
    cases neg
    · simp only [Bool.false_eq_true, if_false, vEq, Option.map_eq_some_iff] at e ⊢; obtain ⟨b, h, rfl⟩ := e; exact ⟨b, h, rfl⟩
    · simp only [if_true, vNe, Option.map_eq_some_iff] at e ⊢; obtain ⟨b, h, rfl⟩ := e; exact ⟨b, h, rfl⟩
  obtain ⟨b, hb, rfl⟩ := hc
  have fin : Qh (.bl (if neg then !b else b)) H := q _ G H k (Gle.refl _) ro_bl
  unfold eqx at hb
  split at hb
  · rename_i hc
    cases hb
    simp only [eqOk, Bool.and_eq_true, decide_eq_true_eq] at hc
    obtain ⟨h1, h2, h3⟩ := hc
    exact .inl ⟨x, y, rx.lift k.sub (pl_ins h1), ry.lift k.sub (pl_ins h2), h1, h2, h3, fin⟩
  · split at hb
    · split at hb
      · rename_i hl
        cases hb
        obtain ⟨a, xs, rfl, h1, _, r1⟩ := rx.lst k.sub
        obtain ⟨b, ys, rfl, h2, _, r2⟩ := ry.lst k.sub
        refine .inr (.inl ⟨a, b, xs, ys, rfl, rfl, .of h1, .of h2, by rw [r1.len, r2.len]; exact hl, ?_⟩)
        cases neg <;> exact fin
      · cases hb
    · rename_i ka kb
      obtain ⟨a, xs, rfl, h1, _, r1⟩ := rx.dct k.sub
      obtain ⟨b', ys, rfl, h2, _, r2⟩ := ry.dct k.sub
      have l1 := r1.len
      have l2 := r2.len
      split at hb
      · rename_i hl
        cases hb
        refine .inr (.inr ⟨a, b', xs, ys, rfl, rfl, h1, h2, fun e => absurd (by omega) hl, ?_⟩)
        have : decide (xs.length = ys.length) = false := by simp; omega
        rw [this]; exact fin
      · rename_i hl
        split at hb
        · rename_i h0
          cases hb
          refine .inr (.inr ⟨a, b', xs, ys, rfl, rfl, h1, h2, fun e => by omega, ?_⟩)
          have : decide (xs.length = ys.length) = true := by simp; omega
          rw [this]; exact fin
        · cases hb
    · cases hb
theorem vo_eq {a b : Expr} {pos : Pos} {ta tb : VTB} (hr : Room k X.A) (ha : VB X W a ta) (hb : VB X W b tb) : VO X W (.Compare a [.Eq] [b] pos) (oOp vEq ta tb) := vo_cmp (op_eqX (room200 hr)) (snd_eq (neg := false)) ha hb (nomark _)
theorem vt_eq {a b : Expr} {pos : Pos} {ta tb : VTB} (hr : Room k X.A) (ha : VB X W a ta) (hb : VB X W b tb) : VT X W (.Compare a [.Eq] [b] pos) (tVal (oE (oOp vEq ta tb))) := vt_cmp (op_eqX (room200 hr)) (snd_eq (neg := false)) ha hb (nomark _)
theorem vo_ne {a b : Expr} {pos : Pos} {ta tb : VTB} (hr : Room k X.A) (ha : VB X W a ta) (hb : VB X W b tb) : VO X W (.Compare a [.NotEq] [b] pos) (oOp vNe ta tb) := vo_cmp (op_neX (room200 hr)) (snd_eq (neg := true)) ha hb (nomark _)
theorem vt_ne {a b : Expr} {pos : Pos} {ta tb : VTB} (hr : Room k X.A) (ha : VB X W a ta) (hb : VB X W b tb) : VT X W (.Compare a [.NotEq] [b] pos) (tVal (oE (oOp vNe ta tb))) := vt_cmp (op_neX (room200 hr)) (snd_eq (neg := true)) ha hb (nomark _)

/-! ### in, not in: a dict's key; a list's, tuple's flat items; one sign, a text in a text -/
def valD (kvs : List (Key × D)) (k : Key) : Option D := (kvs.find? fun kv => decide (kv.1 = k)).map (·.2)
theorem Repk.val {kvs : List (Key × D)} {ys : List (Key × V)} (h : Repk K G kvs ys) (k : Key) : (valV ys k = none ∧ valD kvs k = none) ∨ ∃ v d, valV ys k = some v ∧ valD kvs k = some d ∧ Rep K G d v := by
  induction kvs generalizing ys with
  | nil => simp only [Repk] at h; subst h; exact .inl ⟨rfl, rfl⟩
  | cons c cs ih =>
    obtain ⟨k', d⟩ := c
    simp only [Repk] at h
    obtain ⟨y, r, rfl, h1, h2⟩ := h
    by_cases e : k' = k
    · right; exact ⟨y, d, valV_pos (p := (k', y)) e, by simp [valD, e], h1⟩
    · rw [valV_neg (p := (k', y)) e]
      have : valD ((k', d) :: cs) k = valD cs k := by simp [valD, e]
      rw [this]; exact ih h2
theorem Repk.isSome {kvs : List (Key × D)} {ys : List (Key × V)} (h : Repk K G kvs ys) (k : Key) : (valV ys k).isSome = (valD kvs k).isSome := by
  rcases h.val k with ⟨e1, e2⟩ | ⟨v, d, e1, e2, _⟩ <;> simp [e1, e2]
/-- a key -/
def keyD : D → Option Key
  | .int i => some (.inl i)
  | .str z => some (.inr z)
  | _ => none
theorem keyD_V {key : Key} (h : RdR K G H d v) (e : keyD d = some key) : v = kV key := by
  unfold keyD at e
  split at e
  · cases e; exact h.int
  · cases e; exact h.str.1
  · cases e
mutual
/-- flat: not a list, tuple .. -/
def flD : D → Bool
  | .non => true | .bl _ => true | .int _ => true | .str _ => true
  | _ => false
end
def flsD (ds : List D) : Bool := ds.all flD
theorem flat_of (h : Rep K G d v) (f : flD d = true) : flatV v = true := by
  cases d <;> simp_all [Rep, flD, flatV]
theorem eqV_of {e : D} {y : V} (h : Rep K G d v) (h' : Rep K G e y) (f : flD d = true) (f' : flD e = true) : eqV v y = deq d e := by
  cases d <;> simp [flD] at f <;> cases e <;> simp [flD] at f' <;> simp only [Rep] at h h' <;> simp_all [eqV, deq]
theorem flats_of {ds : List D} {xs : List V} (h : Reps K G ds xs) (f : flsD ds = true) : xs.all flatV = true := by
  induction ds generalizing xs with
  | nil => simp only [Reps] at h; subst h; rfl
  | cons d ds ih =>
    simp only [Reps] at h
    obtain ⟨x, r, rfl, h1, h2⟩ := h
    simp only [flsD, List.all_cons, Bool.and_eq_true] at f ⊢
    exact ⟨flat_of h1 f.1, ih h2 f.2⟩
theorem inV_of {e : D} {y : V} {ds : List D} {xs : List V} (h : Reps K G ds xs) (h' : Rep K G e y) (f : flsD ds = true) (f' : flD e = true) : inV y xs = ds.any fun d => deq d e := by
  induction ds generalizing xs with
  | nil => simp only [Reps] at h; subst h; rfl
  | cons d ds ih =>
    simp only [Reps] at h
    obtain ⟨x, r, rfl, h1, h2⟩ := h
    simp only [flsD, List.all_cons, Bool.and_eq_true] at f
    simp only [inV, List.any_cons]
    rw [eqV_of h1 h' f.1 f']
    congr 1
    exact ih h2 f.2
theorem flD_rep (h : RdR K G H d v) (f : flD d = true) : Rep K G d v := by
  rcases h with h | h
  · exact h
  · cases d <;> simp [flD] at f <;> exact h
/-- is it in it -/
def isInD (x : D) : D → Option Bool
  | .dct kvs => (keyD x).map fun key => (valD kvs key).isSome
  | .lst ds => if flD x && flsD ds then some (ds.any fun d => deq d x) else none
  | .tup ds => if flD x && flsD ds then some (ds.any fun d => deq d x) else none
  | .fzl ds => if flD x && flsD ds then some (ds.any fun d => deq d x) else none
  | .str z => match x with
    | .str w => some (!(Builtin.Str.occurrences z w 0 z.length 1).isEmpty)
    | _ => none
  | _ => none
def vIn (x y : D) : Option Sv := (isInD x y).map fun b => .sh (.bl b)
def vNotIn (x y : D) : Option Sv := (isInD x y).map fun b => .sh (.bl (!b))
end
def rInA (K : PySem.W.Frag) (neg : Bool) : R2 := fun x y H Q =>
  (∃ a o, y = .ref a ∧ DGet H a x o ∧ Q (.bl (if neg then !o.isSome else o.isSome)) H) ∨ rIn K neg x y H Q ∨
    ∃ i j, x = .str i ∧ y = .str j ∧ Q (.bl (if neg then !(!(Builtin.Str.occurrences j i 0 j.length 1).isEmpty) else !(Builtin.Str.occurrences j i 0 j.length 1).isEmpty)) H
section
variable {X : Cx} {W : WX} {K : PySem.W.Frag} {k : Nat}
theorem op_inA (hu : X.A.units + 1 < cLine) : OpR X (compareOp .In) (rInA X.K false) := by
  intro pins s σ H x y v u Q I rx ry h
  rcases h with ⟨a, o, rfl, g, q⟩ | h | ⟨i, j, rfl, rfl, q⟩
  · cases ry
    exact d_in hu I g rx fun s' I' => ⟨.bl _, H, I', rfl, q⟩
  · exact op_in_seq pins s σ H x y v u Q I rx ry h
  · exact op_in_str pins s σ H _ _ v u Q I rx ry ⟨i, j, rfl, rfl, q⟩
theorem op_notInA (hu : X.A.units + 1 < cLine) : OpR X (compareOp .NotIn) (rInA X.K true) := by
  intro pins s σ H x y v u Q I rx ry h
  rcases h with ⟨a, o, rfl, g, q⟩ | h | ⟨i, j, rfl, rfl, q⟩
  · cases ry
    exact d_notIn hu I g rx fun s' I' => ⟨.bl _, H, I', rfl, q⟩
  · exact op_notIn_seq pins s σ H x y v u Q I rx ry h
  · exact op_notin_str pins s σ H _ _ v u Q I rx ry ⟨i, j, rfl, rfl, q⟩
theorem snd_in {neg : Bool} : OpSnd K (rInA K neg) (fun x y => (isInD x y).map fun b => .sh (.bl (if neg then !b else b))) := by
  intro F env σ G H x y vx vy res Qh k rx ry e q
  obtain ⟨b, eb, rfl⟩ := Option.map_eq_some_iff.mp e
  have fin : ∀ b, isInD x y = some b → Qh (.bl (if neg then !b else b)) H := fun b' e' => by
    rw [eb] at e'; cases e'
    exact q _ G H k (Gle.refl _) ro_bl
  unfold isInD at eb
  split at eb
  · rename_i kvs
    obtain ⟨key, ek, rfl⟩ := Option.map_eq_some_iff.mp eb
    obtain ⟨a, ys, rfl, h1, h2, h3⟩ := ry.dct k.sub
    have := keyD_V rx ek; subst this
    refine .inl ⟨a, valV ys key, rfl, .inl ⟨ys, key, h1, rfl, rfl⟩, ?_⟩
    rw [h3.isSome]; exact q _ G H k (Gle.refl _) ro_bl
  · split at eb
    · rename_i ds hf
      cases eb
      simp only [Bool.and_eq_true] at hf
      obtain ⟨a, ys, rfl, h1, h2, h3⟩ := ry.lst k.sub
      have hx := flD_rep rx hf.1
      refine .inr (.inl ⟨a, ys, rfl, .inl (.of h1), flat_of hx hf.1, flats_of h3 hf.2, ?_⟩)
      rw [inV_of h3 hx hf.2 hf.1]; exact q _ G H k (Gle.refl _) ro_bl
    · cases eb
  · split at eb
    · rename_i ds hf
      cases eb
      simp only [Bool.and_eq_true] at hf
      obtain ⟨a, ys, rfl, _, h1, h2, h3⟩ := ry.tup k.sub
      have hx := flD_rep rx hf.1
      refine .inr (.inl ⟨a, ys, rfl, .inr (.of h1), flat_of hx hf.1, flats_of h3 hf.2, ?_⟩)
      rw [inV_of h3 hx hf.2 hf.1]; exact q _ G H k (Gle.refl _) ro_bl
    · cases eb
  · split at eb
    · rename_i ds hf
      cases eb
      simp only [Bool.and_eq_true] at hf
      obtain ⟨a, ys, rfl, h1, h2, h3⟩ := ry.fzl k.sub
      have hx := flD_rep rx hf.1
      refine .inr (.inl ⟨a, ys, rfl, .inl h1, flat_of hx hf.1, flats_of h3 hf.2, ?_⟩)
      rw [inV_of h3 hx hf.2 hf.1]; exact q _ G H k (Gle.refl _) ro_bl
    · cases eb
  · split at eb
    · cases eb
      obtain ⟨e1, _⟩ := rx.str; obtain ⟨e2, _⟩ := ry.str; subst e1 e2
      exact .inr (.inr ⟨_, _, rfl, rfl, q _ G H k (Gle.refl _) ro_bl⟩)
    · cases eb
  · cases eb
theorem vo_in {a b : Expr} {pos : Pos} {ta tb : VTB} (hr : Room k X.A) (ha : VB X W a ta) (hb : VB X W b tb) (hm : behindInMarks .In b = false := by rfl) : VO X W (.Compare a [.In] [b] pos) (oOp vIn ta tb) := vo_cmp (op_inA (hu_of hr)) (snd_in (neg := false)) ha hb hm
theorem vt_in {a b : Expr} {pos : Pos} {ta tb : VTB} (hr : Room k X.A) (ha : VB X W a ta) (hb : VB X W b tb) (hm : behindInMarks .In b = false := by rfl) : VT X W (.Compare a [.In] [b] pos) (tVal (oE (oOp vIn ta tb))) := vt_cmp (op_inA (hu_of hr)) (snd_in (neg := false)) ha hb hm
theorem vo_notIn {a b : Expr} {pos : Pos} {ta tb : VTB} (hr : Room k X.A) (ha : VB X W a ta) (hb : VB X W b tb) (hm : behindInMarks .NotIn b = false := by rfl) : VO X W (.Compare a [.NotIn] [b] pos) (oOp vNotIn ta tb) := vo_cmp (op_notInA (hu_of hr)) (snd_in (neg := true)) ha hb hm
theorem vt_notIn {a b : Expr} {pos : Pos} {ta tb : VTB} (hr : Room k X.A) (ha : VB X W a ta) (hb : VB X W b tb) (hm : behindInMarks .NotIn b = false := by rfl) : VT X W (.Compare a [.NotIn] [b] pos) (tVal (oE (oOp vNotIn ta tb))) := vt_cmp (op_notInA (hu_of hr)) (snd_in (neg := true)) ha hb hm
end
end VL
set_option linter.all false
set_option maxRecDepth 100000
set_option maxHeartbeats 4000000
namespace VL
open PySem PySem.Spec PyProof.Rows L2

/-! ### d[k] as an index -/
section
variable {X : Cx} {k : Nat}
def rIxD : R2 := fun x y H Q => ∃ a v, x = .ref a ∧ DGet H a y (some v) ∧ Q v H
theorem ix_dict (hu : X.A.units + 1 < cLine) : IxR X rIxD := by
  intro value slice pins s σ H x y v u Q I rx ry h hs
  obtain ⟨a, z, rfl, g, q⟩ := h
  cases rx
  exact tail_any (dict_typeIs I g) PySem.F.slot_dict_getitem.lookup (d_getItem hu I g ry fun w' s3 I3 rw' => ⟨z, H, I3, rw', q⟩) hs
def rIx4 (K : PySem.W.Frag) : R2 := fun x y H Q => rIxD x y H Q ∨ rIx K x y H Q
theorem ix_any (hu : X.A.units + 1 < cLine) : IxR X (rIx4 X.K) := (ix_dict hu).or ix_seq

/-! ### truth, dicts too -/
def TruA (K : PySem.W.Frag) (x : V) (H : Hp) (k : Bool) : Prop := TruV K x H k ∨ ∃ a kvs, x = .ref a ∧ Rd H a (.dK kvs) ∧ k = !kvs.isEmpty
theorem tru_any : TruR X (fun x H Q => ∃ k, TruA X.K x H k ∧ Q k H) := by
  intro pins s σ H x v Q I r h
  obtain ⟨b, h | ⟨a, kvs, rfl, hd, rfl⟩, q⟩ := h
  · exact tru_ok pins s σ H x v Q I r ⟨b, h, q⟩
  · cases r
    exact d_truth I hd fun s' I' => ⟨H, I', q⟩
theorem pt_truthA {e : Expr} {te : TE} (h : PE X e te) (he : ∀ whole, isTrue e X.env whole = (do let v ← whole; standAt e.pos; holding [v] (truthy v))) : PT X e (fun σ H Q => te σ H fun x H1 => ∃ k, TruA X.K x H1 k ∧ Q k H1) := by
  refine ⟨fun pins s σ H Q I hw => ?_⟩
  exact isTrue_plain (thn (h.run pins s σ H _ I hw) fun v s1 ⟨x, H1, I1, r1, q1⟩ => tru_any pins s1 σ H1 x v Q I1 r1 q1) (he _)
/-! ### len, dicts too -/
def rLenA (K : PySem.W.Frag) : List V → Hp → VK → Prop := fun xs H Q => (∃ x n, xs = [x] ∧ LenV K x H n ∧ Q (.int n) H) ∨ ∃ a kvs, xs = [V.ref a] ∧ Rd H a (.dK kvs) ∧ Q (.int kvs.length) H
theorem call_lenA : CallR X (.builtin "len") (rLenA X.K) := by
  intro pins s σ H xs us Q I r h
  rcases h with h | ⟨a, kvs, rfl, ha, q⟩
  · exact call_len pins s σ H xs us Q I r h
  · obtain ⟨u, rfl, ru⟩ := vals1 r
    cases ru
    exact d_len I ha fun t s' I' => ⟨.int kvs.length, H, I', ⟨t, rfl⟩, q⟩
/-! ### a dict's keys, values, as lists -/
/-- e.keys(), e.values(): kn tells which -/
def TVw := L2.St → Hp → (Addr → List (Key × V) → Hp → Prop) → Prop
def IsKv (keys : Bool) (h : Heap) (p d : Addr) : Prop := if keys then PySem.W.KdlKeysView h p d else h.IsValuesView p d
structure PVw (X : Cx) (keys : Bool) (e : Expr) (t : TVw) : Prop where
  run : ∀ (pins : List (Addr × Obj)) (s : Shared) (σ : L2.St) (H : Hp) (R : Addr → List (Key × V) → Hp → Prop) , Inv X pins σ H s → t σ H R →
    wpAny (model X.prog X.w) X.A (eval e X.env) (fun u s' => ∃ p d kvs H', u = .ref p ∧ Inv X pins σ H' s' ∧ IsKv keys s'.heap p d ∧ Rd H' d (.dK kvs) ∧ R d kvs H') X.xe s
def tVw (te : TE) : TVw := fun σ H R => te σ H fun x H1 => ∃ d kvs, x = .ref d ∧ Rd H1 d (.dK kvs) ∧ R d kvs H1
theorem pvw_keys {e : Expr} {te : TE} {apos cpos : Pos} (he : PE X e te) (hbase : attributeBase e "keys" X.env (eval e X.env) = eval e X.env := by rfl) (hline : (apos.endLine == cpos.line) = true := by rfl) : PVw X true (.Call (.Attribute e "keys" apos) [] [] cpos) (tVw te) := by
  refine ⟨fun pins s σ H R I h => ?_⟩
  refine wpAny_Call_method (T := "dict") (id := "dict.keys") hbase rfl hline F.plainAttrs_dict F.slot_dict_keys F.type_dict_keys (thn (he.run pins s σ H _ I h) fun u s1 ⟨x, H1, I1, rx, d, kvs, ex, hd, q⟩ => ?_)
  subst ex
  obtain rfl : u = Value.ref d := rx
  obtain ⟨z, lo, vs, rel, dd⟩ := dk_rd I1.hok hd
  refine ⟨dd.typeIs, dd.mapOf.noDict, ?_⟩
  have I2 : Inv X pins σ H1 { s1 with heap := s1.heap.push { cls := .type "dict_keys", data := .fields #[.ref d] } } := I1.kept (t' := s1.toks) fun b ob q => Heap.get?_push_of_some _ q
  show wpAny _ _ (callWith cpos (.builtin "dict.keys") [.ref d] [] []) _ X.xe s1
  refine method_meetsIn F.slot_dict_keys F.entry_dict_keys rfl (PySem.evalArgs_none ⟨rfl, dd.typeIs, F.args_dict_keys_1 _, _, PySem.W.kdl_meets_keys (mixKind X.prog X.w) d lo, ⟨vs, dd⟩, ?_⟩)
  exact ⟨_, d, kvs, H1, rfl, I2, ⟨_, Heap.get?_push_size _ rfl, rfl, rfl⟩, hd, q⟩
theorem pvw_values {e : Expr} {te : TE} {apos cpos : Pos} (he : PE X e te) (hbase : attributeBase e "values" X.env (eval e X.env) = eval e X.env := by rfl) (hline : (apos.endLine == cpos.line) = true := by rfl) : PVw X false (.Call (.Attribute e "values" apos) [] [] cpos) (tVw te) := by
  refine ⟨fun pins s σ H R I h => ?_⟩
  refine wpAny_Call_method (T := "dict") (id := "dict.values") hbase rfl hline F.plainAttrs_dict F.slot_dict_values F.type_dict_values (thn (he.run pins s σ H _ I h) fun u s1 ⟨x, H1, I1, rx, d, kvs, ex, hd, q⟩ => ?_)
  subst ex
  obtain rfl : u = Value.ref d := rx
  obtain ⟨z, lo, vs, rel, dd⟩ := dk_rd I1.hok hd
  refine ⟨dd.typeIs, dd.mapOf.noDict, ?_⟩
  have I2 : Inv X pins σ H1 { s1 with heap := s1.heap.push { cls := .type "dict_values", data := .fields #[.ref d] } } := I1.kept (t' := s1.toks) fun b ob q => Heap.get?_push_of_some _ q
  show wpAny _ _ (callWith cpos (.builtin "dict.values") [.ref d] [] []) _ X.xe s1
  refine method_meetsIn F.slot_dict_values F.entry_dict_values rfl (PySem.evalArgs_none ⟨rfl, dd.typeIs, F.args_dict_values_1 _, _, meets_dict_values (mixKind X.prog X.w) d lo, ⟨vs, dd⟩, ?_⟩)
  exact ⟨_, d, kvs, H1, rfl, I2, ⟨_, Heap.get?_push_size _ rfl, rfl, rfl⟩, hd, q⟩
/-- what the view yields -/
def vwItems (keys : Bool) (kvs : List (Key × V)) : List V := if keys then kvs.map fun p => kV p.1 else kvs.map (·.2)
theorem vals_at : ∀ {us : List Value} {vs : List (Key × Value)} {kvs : List (Key × V)}, KV kvs vs → us.length = vs.length → (∀ (j : Nat) (v : Value), us[j]? = some v → ∃ (k : Key), vs[j]? = some (k, v)) → Vals (kvs.map (·.2)) us
  | [], [], _, .nil, _, _ => .nil
  | u :: us, q :: vs, _, .cons r t, hl, h => by
    obtain ⟨k, e1⟩ := h 0 u rfl
    have e1' : q = (k, u) := Option.some.inj e1
    subst e1'
    rw [List.map_cons]
    exact .cons r.2 (vals_at t (by simpa using hl) fun j v e => by obtain ⟨k, a⟩ := h (j + 1) v (by simpa using e); exact ⟨k, by simpa using a⟩)
  | [], _ :: _, _, _, hl, _ => by simp at hl
  | _ :: _, [], _, _, hl, _ => by simp at hl
/-- the source of a walk over the view -/
theorem vw_src {pins : List (Addr × Obj)} {σ : L2.St} {H : Hp} {s : Shared} {keys : Bool} {p d : Addr} {kvs : List (Key × V)} (I : Inv X pins σ H s) (hv : IsKv keys s.heap p d) (hd : Rd H d (.dK kvs)) :
    ∃ (T : String) (P : Nat → Value → Prop) (OK : Heap → Prop), PySem.W.KdlSrc X.prog X.w T p d kvs.length P OK ∧ OK s.heap ∧ kvs.length ≤ sizeLine ∧ ∀ us : List Value, us.length = kvs.length → (∀ j v, us[j]? = some v → P j v) → Vals (vwItems keys kvs) us := by
  obtain ⟨z, lo, vs, rel, dd⟩ := dk_rd I.hok hd
  obtain ⟨ep, hat⟩ := dd.dictAt
  have hl : kvs.length = vs.length := rel.length
  cases keys with
  | true =>
    have S := PySem.W.kdl_keys (prog := X.prog) (w := X.w) (r := p) (d := d) (knd := mixKind X.prog X.w) (kvs := vs) (ep := ep)
    rw [← hl] at S
    refine ⟨"dict_keys", _, _, S, ⟨hv, hat⟩, z, fun us e h => ?_⟩
    have := keys_at (us := us) (vs := vs) (by omega) h
    have e2 : vwItems true kvs = vs.map fun p => kV p.1 := by
      show kvs.map (fun p => kV p.1) = _
      have := congrArg (List.map kV) rel.keys
      simpa [List.map_map, Function.comp_def] using this
    rw [e2]; exact this
  | false =>
    have S := PySem.W.kdl_values (prog := X.prog) (w := X.w) (r := p) (d := d) (knd := mixKind X.prog X.w) (kvs := vs) (ep := ep)
    rw [← hl] at S
    refine ⟨"dict_values", _, _, S, ⟨hv, hat⟩, z, fun us e h => ?_⟩
    exact vals_at rel (by omega) h
/-- list(e.keys()), list(e.values()) -/
def tListVw (keys : Bool) (t : TVw) : TE := fun σ H Q => t σ H fun d kvs H1 => ∀ p, H1 p = none → Q (.ref p) (upd H1 p (.lst (vwItems keys kvs)))
theorem vwItems_len {keys : Bool} {kvs : List (Key × V)} : (vwItems keys kvs).length = kvs.length := by cases keys <;> simp [vwItems]
theorem pe_listVw {keys : Bool} {e : Expr} {t : TVw} {p pos : Pos} (hcalm : X.calm = true) (hg : Gl X "list") (hm : X.mg "list" = none) (hv : PVw X keys e t)
    (he : starEach [e] X.env = (false, eval e X.env) :: starEach [] X.env := by rfl) (hpl : (backTo pos (starEach [] X.env)).any (·.1) = false := by rfl) : PE X (.Call (.Name "list" p) [e] [] pos) (tListVw keys t) := by
  refine ⟨fun pins s σ H Q I h => ?_⟩
  refine wpAny_Call_Name_kw (ld_blt I hg hm (by decide +kernel : bootBuiltins "list" = some (.type "list")) ?_)
  refine PyProof.Rows.callWith_type1 ?_ he hpl
  rw [he]
  show wpAny _ _ (spliced ((false, eval e X.env) :: backTo pos (starEach [] X.env))) _ _ s
  refine Calls.spliced_cons (thn (hv.run pins s σ H _ I h) fun u s1 ⟨vp, d, kvs, H1, eu, I1, hkv, hd, q⟩ => ?_)
  subst eu
  refine Calls.spliced_nil ?_
  obtain ⟨T, P, OK, S, ok, z, hvals⟩ := vw_src I1 hkv hd
  refine PySem.W.kdl_call S (I1.ok.hd hcalm) ok z fun h' tk acc c' hk hS hacc => ?_
  have rv : Vals (vwItems keys kvs) acc.toList := hvals acc.toList (by rw [Array.length_toList]; exact hacc.1) fun j v e => hacc.2 j v (by rw [← Array.getElem?_toList]; exact e)
  have hf : H1 s1.heap.objs.size = none := I1.hok.fresh (Nat.le_refl _)
  refine ⟨.ref _, upd H1 s1.heap.objs.size (.lst (vwItems keys kvs)), I1.laid (t' := tk) hk (Nat.le_refl _) ⟨by rw [vwItems_len]; exact z, acc.toList, c', rv, by rw [Array.toArray_toList]; exact hS⟩, rfl, q _ hf⟩
/-! ### sorted: of a list, of a dict's keys, all texts or all ints -/
theorem cr_sortedSA : CallR X (.builtin "sorted") (fun vs H Q => ∃ (a : Addr) (xs : List Str), vs = [V.ref a] ∧ SqL X.K H a (xs.map V.str) ∧ ∀ (ys : List Str) (p : Addr), ys.Perm xs → sortedS ys = true → H p = none → Q (.ref p) (upd H p (.lst (ys.map V.str)))) := by
  intro pins s σ H vs us Q I r h
  obtain ⟨a, xs, rfl, hs, q⟩ := h
  obtain ⟨its, rv, hl, hz⟩ := I.list hs
  rw [Vals.ref1 r]
  have hlen0 := rv.length
  rw [List.length_map] at hlen0
  rw [List.length_map] at hz
  refine PyProof.Rows.sorted_strsAny hl.isList rv.strs (by rw [← hlen0]; exact hz) fun out ys h1 h2 h3 => ?_
  obtain ⟨ep, he'⟩ := PyProof.Rows.sortedAll_at s.heap its out
  have hlen : (ys.map V.str).length ≤ sizeLine := by rw [List.length_map, h2.length_eq]; exact hz
  exact ⟨.ref _, upd H (s.heap.objs.size + 1) (.lst (ys.map V.str)), I.laid (t' := s.toks) (fun _ _ => PyProof.Rows.sortedAll_old) (Nat.le_succ _) ⟨hlen, out.toList, ep, vals_of_strs h1, he'⟩, rfl, q ys _ h2 h3 (I.hok.fresh (Nat.le_succ _))⟩
theorem cr_sortedIA : CallR X (.builtin "sorted") (fun vs H Q => ∃ (a : Addr) (xs : List Int), vs = [V.ref a] ∧ SqL X.K H a (xs.map V.int) ∧ ∀ (ys : List Int) (p : Addr), ys.Perm xs → ys.Pairwise (· ≤ ·) → H p = none → Q (.ref p) (upd H p (.lst (ys.map V.int)))) := by
  intro pins s σ H vs us Q I r h
  obtain ⟨a, xs, rfl, hs, q⟩ := h
  obtain ⟨its, rv, hl, hz⟩ := I.list hs
  rw [Vals.ref1 r]
  have hi := rv.ints
  rw [List.length_map] at hz
  refine PyProof.Rows.sorted_intsAny hl.isList hi (by rw [hi.length]; exact hz) fun out ys h1 h2 h3 => ?_
  obtain ⟨ep, he'⟩ := PyProof.Rows.sortedAll_at s.heap its out
  have hlen : (ys.map V.int).length ≤ sizeLine := by rw [List.length_map, h2.length_eq]; exact hz
  exact ⟨.ref _, upd H (s.heap.objs.size + 1) (.lst (ys.map V.int)), I.laid (t' := s.toks) (fun _ _ => PyProof.Rows.sortedAll_old) (Nat.le_succ _) ⟨hlen, out.toList, ep, vals_of_ints h1, he'⟩, rfl, q ys _ h2 h3 (I.hok.fresh (Nat.le_succ _))⟩
/-- sorted(e.keys()) -/
def tSortVw (t : TVw) : TE := fun σ H Q => t σ H fun d kvs H1 =>
  (∃ ks : List Str, kvs.map (·.1) = ks.map Sum.inr ∧ ∀ (ys : List Str) (p : Addr), ys.Perm ks → sortedS ys = true → H1 p = none → Q (.ref p) (upd H1 p (.lst (ys.map V.str)))) ∨
  ∃ ks : List Int, kvs.map (·.1) = ks.map Sum.inl ∧ ∀ (ys : List Int) (p : Addr), ys.Perm ks → ys.Pairwise (· ≤ ·) → H1 p = none → Q (.ref p) (upd H1 p (.lst (ys.map V.int)))
theorem pe_sortVw {e : Expr} {t : TVw} {p pos : Pos} (hcalm : X.calm = true) (hg : Gl X "sorted") (hm : X.mg "sorted" = none) (hv : PVw X true e t)
    (he : starEach [e] X.env = (false, eval e X.env) :: starEach [] X.env := by rfl) (hpl : (backTo pos (starEach [] X.env)).any (·.1) = false := by rfl) : PE X (.Call (.Name "sorted" p) [e] [] pos) (tSortVw t) := by
  refine ⟨fun pins s σ H Q I h => ?_⟩
  refine wpAny_Call_Name_kw (ld_blt I hg hm (by decide +kernel : bootBuiltins "sorted" = some (.builtin "sorted")) ?_)
  refine PyProof.Rows.callWith_builtin1 ?_ he hpl
  rw [he]
  show wpAny _ _ (spliced ((false, eval e X.env) :: backTo pos (starEach [] X.env))) _ _ s
  refine Calls.spliced_cons (thn (hv.run pins s σ H _ I h) fun u s1 ⟨vp, d, kvs, H1, eu, I1, hkv, hd, q⟩ => ?_)
  subst eu
  refine Calls.spliced_nil ?_
  obtain ⟨T, P, OK, S, ok, z, hvals⟩ := vw_src I1 hkv hd
  refine Calls.call_function_entry PyProof.Rows.kind_sorted PyProof.Rows.plain_sorted PyProof.Rows.entry_sorted (PyProof.Rows.args_sorted1 _) ?_
  unfold Builtin.«sorted»
  refine wpAny_bind (m := checkCount "sorted" 1 1 _) (wpAny_pure ?_)
  refine wpAny_bind (PySem.W.kdu_collect (A := X.A.in1) S (I1.ok.hd hcalm) ok z fun h' tk acc hk hacc => ?_)
  have hal : acc.toList.length = kvs.length := by rw [Array.length_toList, hacc.1]
  have rv : Vals (vwItems true kvs) acc.toList := hvals acc.toList hal fun j v e => hacc.2 j v (by rw [← Array.getElem?_toList]; exact e)
  have I2 : Inv X pins σ H1 { s1 with heap := h', toks := tk } := I1.kept hk
  refine wpAny_bind (wpAny_newList ?_ (by rw [hal]; exact z))
  have hoL : (h'.push (seqObj "list" acc.toList.toArray 0)).get? h'.objs.size = some (seqObj "list" acc.toList.toArray 0) := Heap.get?_push_size _ rfl
  show wpAny _ _ _ _ _ { s1 with heap := h'.push (seqObj "list" acc.toList.toArray 0), toks := tk }
  have fin : ∀ (out : Array Value) (ys : List V), Vals ys out.toList → ys.length ≤ sizeLine → (∀ p, H1 p = none → Q (.ref p) (upd H1 p (.lst ys))) →
      EP X pins σ Q (.ref h'.objs.size) { s1 with heap := sortedHeap (h'.push (seqObj "list" acc.toList.toArray 0)) h'.objs.size acc.toList out, toks := tk } := fun out ys r hz q => by
    obtain ⟨ep, he'⟩ := PyProof.Rows.sortedHeap_at (vs := acc.toList) (out := out) hoL
    have hf : H1 h'.objs.size = none := I2.hok.fresh (Nat.le_refl _)
    refine ⟨.ref _, upd H1 h'.objs.size (.lst ys), I2.laid (t' := tk) (fun b u e => ?_) (Nat.le_refl _) ⟨hz, out.toList, ep, r, by rw [Array.toArray_toList]; exact he'⟩, rfl, q _ hf⟩
    rw [PyProof.Rows.sortedHeap_old (Nat.ne_of_lt (Heap.lt_size e)) (by rw [Heap.size_push]; exact Nat.lt_succ_of_lt (Heap.lt_size e))]
    exact Heap.get?_push_of_some _ e
  rcases q with ⟨ks, hks, q⟩ | ⟨ks, hks, q⟩
  · have ei : vwItems true kvs = ks.map V.str := by
      show kvs.map (fun p => kV p.1) = _
      have := congrArg (List.map kV) hks
      simpa [List.map_map, Function.comp_def, kV] using this
    rw [ei] at rv
    have hS : StrsAre acc.toList ks := rv.strs
    have hkl : ks.length = kvs.length := by have := congrArg List.length hks; simpa using this.symm
    refine wpAny_bind (wpAny_holding (wpAny_call_entry PyProof.Rows.slot_list_sort ⟨_, hoL, rfl⟩ PyProof.Rows.entry_list_sort
      (PyProof.Rows.list_sort_treeKAny strKind_oneLt (s := { s1 with heap := h'.push (seqObj "list" acc.toList.toArray 0), toks := tk }) hoL hS.keysOf (fun v₁ v₂ rest e => keyKind_strs (by rw [← e]; exact hS)) (by rw [hal]; exact z) fun st' hp hs => ⟨_, rfl, ?_⟩)
      (PyProof.Rows.args_list_sort _)))
    obtain ⟨ys, g1, g2, g3⟩ := sorted_out_str hS hp hs
    exact wpAny_pure ⟨_, rfl, fin _ (ys.map V.str) (vals_of_strs g1) (by rw [List.length_map, g2.length_eq, hkl]; exact z) fun p hp => q ys p g2 g3 hp⟩
  · have ei : vwItems true kvs = ks.map V.int := by
      show kvs.map (fun p => kV p.1) = _
      have := congrArg (List.map kV) hks
      simpa [List.map_map, Function.comp_def, kV] using this
    rw [ei] at rv
    have hS : IntsAre acc.toList ks := rv.ints
    have hkl : ks.length = kvs.length := by have := congrArg List.length hks; simpa using this.symm
    refine wpAny_bind (wpAny_holding (wpAny_call_entry PyProof.Rows.slot_list_sort ⟨_, hoL, rfl⟩ PyProof.Rows.entry_list_sort
      (PyProof.Rows.list_sort_treeAny (s := { s1 with heap := h'.push (seqObj "list" acc.toList.toArray 0), toks := tk }) hoL hS (by rw [hal]; exact z) fun out ys g1 g2 g3 => ⟨_, rfl, ?_⟩)
      (PyProof.Rows.args_list_sort _)))
    exact wpAny_pure ⟨_, rfl, fin _ (ys.map V.int) (vals_of_ints g1) (by rw [List.length_map, g2.length_eq, hkl]; exact z) fun p hp => q ys p g2 g3 hp⟩
end
end VL
set_option linter.all false
set_option maxRecDepth 100000
set_option maxHeartbeats 4000000
namespace VL
open PySem PySem.Spec PyProof.Rows L2

section
variable {X : Cx} {W : WX} {K : PySem.W.Frag} {F : FrD} {env : En} {σ : L2.St} {G H G' H' : Hp} {d : D} {v : V} {p : Addr} {xs : List V} {ds : List D} {k : Nat}
theorem Reps.atI {i : Int} {d : D} (h : Reps K G ds xs) (e : L2.atI ds i = some d) : ∃ x, L2.atI xs i = some x ∧ Rep K G d x := by
  unfold L2.atI at e ⊢
  rw [h.len]
  cases q : ixN ds.length i with
  | none => rw [q] at e; cases e
  | some j =>
    rw [q] at e
    obtain ⟨x, hx, r⟩ := h.get (show ds[j]? = some d from e)
    exact ⟨x, hx, r⟩
/-! ### an index -/
def vIx : D → D → Option Sv
  | .lst ds, .int i => (L2.atI ds i).map .sh
  | .tup ds, .int i => (L2.atI ds i).map .sh
  | .fzl ds, .int i => (L2.atI ds i).map .sh
  | .str z, .int i => (L2.atI z.cps.toList i).map fun c => .sh (.str ⟨#[c]⟩)
  | .dct kvs, x => ((keyD x).bind fun key => valD kvs key).map .sh
  | _, _ => none
theorem snd_ix : OpSnd K (rIx4 K) vIx := by
  intro F env σ G H x y vx vy res Qh k rx ry e q
  unfold vIx at e
  split at e
  · obtain ⟨z, ez, rfl⟩ := Option.map_eq_some_iff.mp e
    obtain ⟨a, ys, rfl, h1, h2, h3⟩ := rx.lst k.sub
    have := ry.int; subst this
    obtain ⟨w, ew, rw'⟩ := h3.atI ez
    exact .inr (.inl ⟨a, ys, _, w, rfl, rfl, .of h1, ew, q w G H k (Gle.refl _) rw'⟩)
  · obtain ⟨z, ez, rfl⟩ := Option.map_eq_some_iff.mp e
    obtain ⟨a, ys, rfl, _, h1, h2, h3⟩ := rx.tup k.sub
    have := ry.int; subst this
    obtain ⟨w, ew, rw'⟩ := h3.atI ez
    exact .inr (.inr (.inl ⟨a, ys, _, w, rfl, rfl, .of h1, ew, q w G H k (Gle.refl _) rw'⟩))
  · obtain ⟨z, ez, rfl⟩ := Option.map_eq_some_iff.mp e
    obtain ⟨a, ys, rfl, h1, h2, h3⟩ := rx.fzl k.sub
    have := ry.int; subst this
    obtain ⟨w, ew, rw'⟩ := h3.atI ez
    exact .inr (.inl ⟨a, ys, _, w, rfl, rfl, h1, ew, q w G H k (Gle.refl _) rw'⟩)
  · obtain ⟨z, ez, rfl⟩ := Option.map_eq_some_iff.mp e
    obtain ⟨e1, hz⟩ := rx.str; subst e1
    have := ry.int; subst this
    exact .inr (.inr (.inr ⟨_, _, z, rfl, rfl, hz, ez, q _ G H k (Gle.refl _) (ro_str (by show 1 ≤ sizeLine; decide))⟩))
  · obtain ⟨z, ez, rfl⟩ := Option.map_eq_some_iff.mp e
    obtain ⟨key, ek, ez⟩ := Option.bind_eq_some_iff.mp ez
    obtain ⟨a, ys, rfl, h1, h2, h3⟩ := rx.dct k.sub
    have := keyD_V ry ek; subst this
    rcases h3.val key with ⟨_, e2⟩ | ⟨w, d', e1, e2, r⟩
    · rw [e2] at ez; cases ez
    · rw [e2] at ez; cases ez
      exact .inl ⟨a, w, rfl, .inl ⟨ys, key, h1, rfl, e1.symm⟩, q w G H k (Gle.refl _) r⟩
  · cases e
theorem vo_index {a b : Expr} {pos : Pos} {ta tb : VTB} (hr : Room k X.A) (ha : VB X W a ta) (hb : VB X W b tb) (hs : PlainIx b := by intro _ _; rfl) : VO X W (.Subscript a b pos) (oOp vIx ta tb) := vo_ix (ix_any (hu_of hr)) snd_ix ha hb hs
/-! ### truth -/
def dTru : D → Option Bool
  | .non => some false
  | .bl b => some b
  | .int i => some (i != 0)
  | .str z => some ((z.length : Int) != 0)
  | .lst ds => some (!ds.isEmpty)
  | .tup ds => some (!ds.isEmpty)
  | .fzl ds => some (!ds.isEmpty)
  | .dct ds => some (!ds.isEmpty)
  | _ => none
theorem emp_len {α β : Type} {l : List α} {m : List β} (h : l.length = m.length) : l.isEmpty = m.isEmpty := by
  cases l <;> cases m <;> simp_all
theorem tru_of {b : Bool} (h : RdR K G H d v) (s : Sub G H) (e : dTru d = some b) : TruA K v H b := by
  unfold dTru at e
  split at e
  · cases e; rw [h.non]; exact .inl rfl
  · cases e; rw [h.bl]; exact .inl rfl
  · cases e; rw [h.int]; exact .inl rfl
  · cases e; obtain ⟨rfl, hz⟩ := h.str; exact .inl ⟨hz, rfl⟩
  · cases e; obtain ⟨a, xs, rfl, h1, _, r⟩ := h.lst s; exact .inl (.inl ⟨xs, .of h1, by rw [emp_len r.len]⟩)
  · cases e; obtain ⟨a, xs, rfl, _, h1, _, r⟩ := h.tup s; exact .inl (.inr (.inl ⟨xs, .of h1, by rw [emp_len r.len]⟩))
  · cases e; obtain ⟨a, xs, rfl, h1, _, r⟩ := h.fzl s; exact .inl (.inl ⟨xs, h1, by rw [emp_len r.len]⟩)
  · cases e; obtain ⟨a, xs, rfl, h1, _, r⟩ := h.dct s; exact .inr ⟨a, xs, rfl, h1, by rw [emp_len r.len]⟩
  · cases e
def tTru (t : VTB) : VTT := fun env Q E => t env (fun b env1 => ∃ d c, b.get env1 = some d ∧ dTru d = some c ∧ Q c env1) E
theorem vt_truth {e : Expr} {t : VTB} (h : VB X W e t) (he : ∀ whole, isTrue e X.env whole = (do let v ← whole; standAt e.pos; holding [v] (truthy v)) := by intro _; rfl) : VT X W e (tTru t) := by
  obtain ⟨te, p, s⟩ := h.ex
  refine ⟨_, pt_truthA p he, fun F env σ G H Q E Qh k xo ht q => ?_⟩
  refine s F env σ G H _ E _ k xo ht fun b env' v G' H' k' g r ⟨d, c, e1, e2, hq⟩ => ?_
  exact ⟨c, tru_of (k'.read e1 r) k'.sub e2, q c env' G' H' k' g hq⟩
/-! ### built-in functions -/
theorem paired1 {α β : Type} {R : α → β → Prop} {as : List α} {y : β} (h : Paired R as [y]) : ∃ a, as = [a] ∧ R a y := by
  cases h with
  | cons r t => cases t; exact ⟨_, rfl, r⟩
theorem paired2 {α β : Type} {R : α → β → Prop} {as : List α} {y z : β} (h : Paired R as [y, z]) : ∃ a b, as = [a, b] ∧ R a y ∧ R b z := by
  cases h with
  | cons r t => cases t with
    | cons r2 t2 => cases t2; exact ⟨_, _, rfl, r, r2⟩
def dLen : D → Option Nat
  | .str z => some z.length
  | .lst ds => some ds.length
  | .tup ds => some ds.length
  | .fzl ds => some ds.length
  | .dct ds => some ds.length
  | _ => none
def vLen : List D → Option Sv
  | [d] => (dLen d).map fun n => .sh (.int n)
  | _ => none
theorem snd_len : CallSnd K (rLenA K) vLen := by
  intro F env σ G H xs vs res Qh k r e q
  unfold vLen at e
  split at e
  · rename_i d
    obtain ⟨n, en, rfl⟩ := Option.map_eq_some_iff.mp e
    obtain ⟨v, rfl, rv⟩ := paired1 r
    unfold dLen at en
    split at en
    · cases en; obtain ⟨rfl, hz⟩ := rv.str; exact .inl ⟨_, _, rfl, ⟨hz, rfl⟩, q _ G H k (Gle.refl _) ro_int⟩
    · cases en; obtain ⟨a, xs, rfl, h1, _, r⟩ := rv.lst k.sub; exact .inl ⟨_, _, rfl, .inl ⟨xs, .of h1, r.len.symm⟩, q _ G H k (Gle.refl _) ro_int⟩
    · cases en; obtain ⟨a, xs, rfl, _, h1, _, r⟩ := rv.tup k.sub; exact .inl ⟨_, _, rfl, .inr ⟨xs, .of h1, r.len.symm⟩, q _ G H k (Gle.refl _) ro_int⟩
    · cases en; obtain ⟨a, xs, rfl, h1, _, r⟩ := rv.fzl k.sub; exact .inl ⟨_, _, rfl, .inl ⟨xs, h1, r.len.symm⟩, q _ G H k (Gle.refl _) ro_int⟩
    · cases en; obtain ⟨a, xs, rfl, h1, _, r⟩ := rv.dct k.sub; refine .inr ⟨a, xs, rfl, h1, ?_⟩; rw [r.len]; exact q _ G H k (Gle.refl _) ro_int
    · cases en
  · cases e
theorem vo_len {p pos : Pos} {e : Expr} {ta : VTA} (hg : Gl X "len") (hm : X.mg "len" = none) (ha : VA X W [e] ta) (he : starEach [e] X.env = (false, eval e X.env) :: starEach [] X.env := by rfl) (hpl : (backTo pos (starEach [] X.env)).any (·.1) = false := by rfl) :
    VO X W (.Call (.Name "len" p) [e] [] pos) (oCB vLen ta) := vo_callB call_lenA snd_len hg hm boot_len ha (by decide) (by decide) he hpl
def dSeq : D → Option (List D)
  | .lst ds => some ds
  | .tup ds => some ds
  | .fzl ds => some ds
  | _ => none
theorem seq_of (h : RdR K G H d v) (s : Sub G H) (e : dSeq d = some ds) : ∃ p ys, v = .ref p ∧ (SqL K H p ys ∨ SqT K H p ys) ∧ ys.length ≤ sizeLine ∧ Reps K G ds ys := by
  unfold dSeq at e
  split at e
  · cases e; obtain ⟨a, xs, rfl, h1, z, r⟩ := h.lst s; exact ⟨a, xs, rfl, .inl (.of h1), z, r⟩
  · cases e; obtain ⟨a, xs, rfl, _, h1, z, r⟩ := h.tup s; exact ⟨a, xs, rfl, .inr (.of h1), z, r⟩
  · cases e; obtain ⟨a, xs, rfl, h1, z, r⟩ := h.fzl s; exact ⟨a, xs, rfl, .inl h1, z, r⟩
  · cases e
def dLs : D → Option (List D)
  | .lst ds => some ds
  | .fzl ds => some ds
  | _ => none
theorem ls_of (h : RdR K G H d v) (s : Sub G H) (e : dLs d = some ds) : ∃ p ys, v = .ref p ∧ SqL K H p ys ∧ ys.length ≤ sizeLine ∧ Reps K G ds ys := by
  unfold dLs at e
  split at e
  · cases e; obtain ⟨a, xs, rfl, h1, z, r⟩ := h.lst s; exact ⟨a, xs, rfl, .of h1, z, r⟩
  · cases e; obtain ⟨a, xs, rfl, h1, z, r⟩ := h.fzl s; exact ⟨a, xs, rfl, h1, z, r⟩
  · cases e
def vListOf : List D → Option Sv
  | [d] => (dSeq d).map fun ds => .ow (.lst ds)
  | _ => none
theorem snd_listOf : CallSnd K (fun xs H Q => ∃ p ys, xs = [.ref p] ∧ (SqL K H p ys ∨ SqT K H p ys) ∧ ∀ l, H l = none → Q (.ref l) (upd H l (.lst ys))) vListOf := by
  intro F env σ G H xs vs res Qh k r e q
  unfold vListOf at e
  split at e
  · obtain ⟨ds, en, rfl⟩ := Option.map_eq_some_iff.mp e
    obtain ⟨v, rfl, rv⟩ := paired1 r
    obtain ⟨p, ys, rfl, h, z, rs⟩ := seq_of rv k.sub en
    refine ⟨p, ys, rfl, h, fun l hl => ?_⟩
    obtain ⟨k1, ro⟩ := ro_lst k hl z rs
    exact q _ _ _ k1 (Gle.refl _) ro
  · cases e
theorem vo_listOf {p pos : Pos} {e : Expr} {ta : VTA} (hg : Gl X "list") (hm : X.mg "list" = none) (ha : VA X W [e] ta) (he : starEach [e] X.env = (false, eval e X.env) :: starEach [] X.env := by rfl) (hpl : (backTo pos (starEach [] X.env)).any (·.1) = false := by rfl) :
    VO X W (.Call (.Name "list" p) [e] [] pos) (oCB vListOf ta) := vo_callTy call_list_of snd_listOf hg hm (by decide +kernel) ha (by decide) (by decide) he hpl
def vTupleOf : List D → Option Sv
  | [.lst ds] => some (.sh (.tup ds))
  | [.tup ds] => some (.sh (.tup ds))
  | _ => none
theorem snd_tupleOf : CallSnd K (fun xs H Q => ∃ p ys, xs = [.ref p] ∧ ((SqL K H p ys ∧ ∀ l, H l = none → Q (.ref l) (upd H l (.tup ys))) ∨ (SqT K H p ys ∧ Q (.ref p) H))) vTupleOf := by
  intro F env σ G H xs vs res Qh k r e q
  unfold vTupleOf at e
  split at e
  · cases e
    obtain ⟨v, rfl, rv⟩ := paired1 r
    obtain ⟨a, xs, rfl, h1, z, rs⟩ := rv.lst k.sub
    refine ⟨a, xs, rfl, .inl ⟨.of h1, fun l hl => ?_⟩⟩
    obtain ⟨k1, g, rp⟩ := ro_tup k hl z rs
    exact q _ _ _ k1 g rp
  · cases e
    obtain ⟨v, rfl, rv⟩ := paired1 r
    have rv' := (show Rep K G _ v from by rcases rv with h | h <;> exact h)
    obtain ⟨a, xs, rfl, _, h1, z, rs⟩ := rv.tup k.sub
    exact ⟨a, xs, rfl, .inr ⟨.of h1, q _ G H k (Gle.refl _) rv'⟩⟩
  · cases e
theorem vo_tupleOf {p pos : Pos} {e : Expr} {ta : VTA} (hg : Gl X "tuple") (hm : X.mg "tuple" = none) (ha : VA X W [e] ta) (he : starEach [e] X.env = (false, eval e X.env) :: starEach [] X.env := by rfl) (hpl : (backTo pos (starEach [] X.env)).any (·.1) = false := by rfl) :
    VO X W (.Call (.Name "tuple" p) [e] [] pos) (oCB vTupleOf ta) := vo_callTy call_tuple_of snd_tupleOf hg hm (by decide +kernel) ha (by decide) (by decide) he hpl
/-! lists of ints, truths -/
def asInts : List D → Option (List Int)
  | [] => some []
  | .int i :: ds => (asInts ds).map (i :: ·)
  | _ => none
def asBls : List D → Option (List Bool)
  | [] => some []
  | .bl i :: ds => (asBls ds).map (i :: ·)
  | _ => none
def asStrs : List D → Option (List Str)
  | [] => some []
  | .str i :: ds => (asStrs ds).map (i :: ·)
  | _ => none
theorem asInts_map (ns : List Int) : asInts (ns.map .int) = some ns := by induction ns <;> simp_all [asInts]
theorem asBls_map (ns : List Bool) : asBls (ns.map .bl) = some ns := by induction ns <;> simp_all [asBls]
theorem asStrs_map (ns : List Str) : asStrs (ns.map .str) = some ns := by induction ns <;> simp_all [asStrs]
theorem ints_of {ns : List Int} (h : Reps K G ds xs) (e : asInts ds = some ns) : xs = ns.map V.int := by
  induction ds generalizing ns xs with
  | nil => cases e; simp only [Reps] at h; exact h
  | cons d ds ih =>
    simp only [Reps] at h
    obtain ⟨x, r, rfl, h1, h2⟩ := h
    cases d <;> simp [asInts] at e
    obtain ⟨ms, em, rfl⟩ := e
    rw [ih h2 em]; simp only [Rep] at h1; subst h1; rfl
theorem bls_of {ns : List Bool} (h : Reps K G ds xs) (e : asBls ds = some ns) : xs = ns.map V.bl := by
  induction ds generalizing ns xs with
  | nil => cases e; simp only [Reps] at h; exact h
  | cons d ds ih =>
    simp only [Reps] at h
    obtain ⟨x, r, rfl, h1, h2⟩ := h
    cases d <;> simp [asBls] at e
    obtain ⟨ms, em, rfl⟩ := e
    rw [ih h2 em]; simp only [Rep] at h1; subst h1; rfl
theorem strs_of {ns : List Str} (h : Reps K G ds xs) (e : asStrs ds = some ns) : xs = ns.map V.str ∧ ∀ z ∈ ns, z.length ≤ sizeLine := by
  induction ds generalizing ns xs with
  | nil => cases e; simp only [Reps] at h; exact ⟨h, fun z hz => by cases hz⟩
  | cons d ds ih =>
    simp only [Reps] at h
    obtain ⟨x, r, rfl, h1, h2⟩ := h
    cases d <;> simp [asStrs] at e
    obtain ⟨ms, em, rfl⟩ := e
    obtain ⟨e1, e2⟩ := ih h2 em
    simp only [Rep] at h1
    obtain ⟨rfl, hz⟩ := h1
    subst e1
    refine ⟨rfl, fun z hz' => ?_⟩
    rcases List.mem_cons.mp hz' with rfl | hz'
    · exact hz
    · exact e2 z hz'
theorem reps_strs {ns : List Str} (h : ∀ z ∈ ns, z.length ≤ sizeLine) : Reps K G (ns.map .str) (ns.map V.str) := by
  induction ns with
  | nil => exact .nil
  | cons n ns ih => exact .cons (rep_str (h n List.mem_cons_self)) (ih fun z hz => h z (List.mem_cons_of_mem _ hz))
theorem reps_ints {ns : List Int} : Reps K G (ns.map .int) (ns.map V.int) := by
  induction ns with
  | nil => exact .nil
  | cons n ns ih => exact .cons rep_int ih
def vSum : List D → Option Sv
  | [d] => ((dLs d).bind asInts).map fun ns => .sh (.int ns.sum)
  | _ => none
theorem snd_sum : CallSnd K (rSum K) vSum := by
  intro F env σ G H xs vs res Qh k r e q
  unfold vSum at e
  split at e
  · obtain ⟨ns, en, rfl⟩ := Option.map_eq_some_iff.mp e
    obtain ⟨ds, e1, e2⟩ := Option.bind_eq_some_iff.mp en
    obtain ⟨v, rfl, rv⟩ := paired1 r
    obtain ⟨p, ys, rfl, h, z, rs⟩ := ls_of rv k.sub e1
    have := ints_of rs e2; subst this
    exact ⟨p, ns, rfl, h, q _ G H k (Gle.refl _) ro_int⟩
  · cases e
def vAll : List D → Option Sv
  | [d] => ((dLs d).bind asBls).map fun ns => .sh (.bl (ns.all id))
  | _ => none
def vAny : List D → Option Sv
  | [d] => ((dLs d).bind asBls).map fun ns => .sh (.bl (ns.any id))
  | _ => none
theorem snd_all : CallSnd K (rAll K) vAll := by
  intro F env σ G H xs vs res Qh k r e q
  unfold vAll at e
  split at e
  · obtain ⟨ns, en, rfl⟩ := Option.map_eq_some_iff.mp e
    obtain ⟨ds, e1, e2⟩ := Option.bind_eq_some_iff.mp en
    obtain ⟨v, rfl, rv⟩ := paired1 r
    obtain ⟨p, ys, rfl, h, z, rs⟩ := ls_of rv k.sub e1
    have := bls_of rs e2; subst this
    exact ⟨p, ns, rfl, h, q _ G H k (Gle.refl _) ro_bl⟩
  · cases e
theorem snd_any : CallSnd K (rAny K) vAny := by
  intro F env σ G H xs vs res Qh k r e q
  unfold vAny at e
  split at e
  · obtain ⟨ns, en, rfl⟩ := Option.map_eq_some_iff.mp e
    obtain ⟨ds, e1, e2⟩ := Option.bind_eq_some_iff.mp en
    obtain ⟨v, rfl, rv⟩ := paired1 r
    obtain ⟨p, ys, rfl, h, z, rs⟩ := ls_of rv k.sub e1
    have := bls_of rs e2; subst this
    exact ⟨p, ns, rfl, h, q _ G H k (Gle.refl _) ro_bl⟩
  · cases e
/-- the greatest, the least -/
def mx : List Int → Int
  | [] => 0
  | [a] => a
  | a :: r => max a (mx r)
def mn : List Int → Int
  | [] => 0
  | [a] => a
  | a :: r => min a (mn r)
theorem mx_spec : ∀ {l : List Int} {m : Int}, m ∈ l → (∀ y, y ∈ l → y ≤ m) → m = mx l
  | [a], m, h, _ => by simp at h; exact h
  | a :: b :: r, m, h, hl => by
    simp only [mx]
    by_cases e : m ∈ b :: r
    · have := mx_spec e fun y hy => hl y (List.mem_cons_of_mem _ hy)
      have := hl a List.mem_cons_self; omega
    · have e1 : m = a := by rcases List.mem_cons.mp h with h | h; exact h; exact absurd h e
      subst e1
      have key : ∀ (l : List Int), l ≠ [] → (∀ y ∈ l, y ≤ m) → mx l ≤ m := by
        intro l
        induction l with
        | nil => intro h; exact absurd rfl h
        | cons c cs ih =>
          intro _ hc
          cases cs with
          | nil => exact hc c List.mem_cons_self
          | cons c2 cs =>
            have := ih (by simp) fun y hy => hc y (List.mem_cons_of_mem _ hy)
            have := hc c List.mem_cons_self
            simp only [mx]; omega
      have := key (b :: r) (by simp) fun y hy => hl y (List.mem_cons_of_mem _ hy)
      omega
theorem mn_spec : ∀ {l : List Int} {m : Int}, m ∈ l → (∀ y, y ∈ l → m ≤ y) → m = mn l
  | [a], m, h, _ => by simp at h; exact h
  | a :: b :: r, m, h, hl => by
    simp only [mn]
    by_cases e : m ∈ b :: r
    · have := mn_spec e fun y hy => hl y (List.mem_cons_of_mem _ hy)
      have := hl a List.mem_cons_self; omega
    · have e1 : m = a := by rcases List.mem_cons.mp h with h | h; exact h; exact absurd h e
      subst e1
      have key : ∀ (l : List Int), l ≠ [] → (∀ y ∈ l, m ≤ y) → m ≤ mn l := by
        intro l
        induction l with
        | nil => intro h; exact absurd rfl h
        | cons c cs ih =>
          intro _ hc
          cases cs with
          | nil => exact hc c List.mem_cons_self
          | cons c2 cs =>
            have := ih (by simp) fun y hy => hc y (List.mem_cons_of_mem _ hy)
            have := hc c List.mem_cons_self
            simp only [mn]; omega
      have := key (b :: r) (by simp) fun y hy => hl y (List.mem_cons_of_mem _ hy)
      omega
def vMax : List D → Option Sv
  | [.int i, .int j] => some (.sh (.int (if j > i then j else i)))
  | [d] => ((dLs d).bind asInts).bind fun ns => if ns = [] then none else some (.sh (.int (mx ns)))
  | _ => none
def vMin : List D → Option Sv
  | [.int i, .int j] => some (.sh (.int (if j < i then j else i)))
  | [d] => ((dLs d).bind asInts).bind fun ns => if ns = [] then none else some (.sh (.int (mn ns)))
  | _ => none
def rMax2A (K : PySem.W.Frag) : List V → Hp → VK → Prop := fun xs H Q => (∃ i j, xs = [.int i, .int j] ∧ Q (.int (if j > i then j else i)) H) ∨ rMax K xs H Q
def rMin2A (K : PySem.W.Frag) : List V → Hp → VK → Prop := fun xs H Q => (∃ i j, xs = [.int i, .int j] ∧ Q (.int (if j < i then j else i)) H) ∨ rMin K xs H Q
theorem snd_max : CallSnd K (rMax2A K) vMax := by
  intro F env σ G H xs vs res Qh k r e q
  unfold vMax at e
  split at e
  · cases e
    obtain ⟨v, w, rfl, rv, rw'⟩ := paired2 r
    rw [rv.int, rw'.int]
    exact .inl ⟨_, _, rfl, q _ G H k (Gle.refl _) ro_int⟩
  · obtain ⟨ns, en, e3⟩ := Option.bind_eq_some_iff.mp e
    obtain ⟨ds, e1, e2⟩ := Option.bind_eq_some_iff.mp en
    split at e3
    · cases e3
    · rename_i hne
      cases e3
      obtain ⟨v, rfl, rv⟩ := paired1 r
      obtain ⟨p, ys, rfl, h, z, rs⟩ := ls_of rv k.sub e1
      have := ints_of rs e2; subst this
      refine .inr ⟨p, ns, rfl, h, List.length_pos_iff.mpr hne, fun m hm hl => ?_⟩
      rw [mx_spec hm hl]; exact q _ G H k (Gle.refl _) ro_int
  · cases e
theorem snd_min : CallSnd K (rMin2A K) vMin := by
  intro F env σ G H xs vs res Qh k r e q
  unfold vMin at e
  split at e
  · cases e
    obtain ⟨v, w, rfl, rv, rw'⟩ := paired2 r
    rw [rv.int, rw'.int]
    exact .inl ⟨_, _, rfl, q _ G H k (Gle.refl _) ro_int⟩
  · obtain ⟨ns, en, e3⟩ := Option.bind_eq_some_iff.mp e
    obtain ⟨ds, e1, e2⟩ := Option.bind_eq_some_iff.mp en
    split at e3
    · cases e3
    · rename_i hne
      cases e3
      obtain ⟨v, rfl, rv⟩ := paired1 r
      obtain ⟨p, ys, rfl, h, z, rs⟩ := ls_of rv k.sub e1
      have := ints_of rs e2; subst this
      refine .inr ⟨p, ns, rfl, h, List.length_pos_iff.mpr hne, fun m hm hl => ?_⟩
      rw [mn_spec hm hl]; exact q _ G H k (Gle.refl _) ro_int
  · cases e
def vAbs : List D → Option Sv
  | [.int i] => some (.sh (.int (if i < 0 then -i else i)))
  | _ => none
theorem snd_abs : CallSnd K (fun xs H Q => ∃ i, xs = [.int i] ∧ Q (.int (if i < 0 then -i else i)) H) vAbs := by
  intro F env σ G H xs vs res Qh k r e q
  unfold vAbs at e
  split at e
  · cases e
    obtain ⟨v, rfl, rv⟩ := paired1 r
    rw [rv.int]; exact ⟨_, rfl, q _ G H k (Gle.refl _) ro_int⟩
  · cases e
def vOrd : List D → Option Sv
  | [.str z] => if z.length = 1 then some (.sh (.int (z.cps.getD 0 0 : Nat))) else none
  | _ => none
theorem snd_ord : CallSnd K (fun xs H Q => ∃ x, xs = [.str x] ∧ x.length = 1 ∧ Q (.int (x.cps.getD 0 0 : Nat)) H) vOrd := by
  intro F env σ G H xs vs res Qh k r e q
  unfold vOrd at e
  split at e
  · split at e
    · rename_i h; cases e
      obtain ⟨v, rfl, rv⟩ := paired1 r
      obtain ⟨rfl, _⟩ := rv.str; exact ⟨_, rfl, h, q _ G H k (Gle.refl _) ro_int⟩
    · cases e
  · cases e
/-- int(int), int(truth), int(text) -/
def vInt : List D → Option Sv
  | [.int i] => some (.sh (.int i))
  | [.bl b] => some (.sh (.int (if b then 1 else 0)))
  | [.str z] => if z.length ≤ 640 then (PySem.intText? z).map fun n => .sh (.int n) else none
  | _ => none
def rIntA : List V → Hp → VK → Prop := fun xs H Q => ((∃ i, xs = [.int i] ∧ Q (.int i) H) ∨ ∃ k, xs = [.bl k] ∧ Q (.int (if k then 1 else 0)) H) ∨ ∃ a n, xs = [.str a] ∧ PySem.intText? a = some n ∧ a.length ≤ 640 ∧ Q (.int n) H
theorem snd_int : CallSnd K rIntA vInt := by
  intro F env σ G H xs vs res Qh k r e q
  unfold vInt at e
  split at e
  · cases e
    obtain ⟨v, rfl, rv⟩ := paired1 r
    rw [rv.int]; exact .inl (.inl ⟨_, rfl, q _ G H k (Gle.refl _) ro_int⟩)
  · cases e
    obtain ⟨v, rfl, rv⟩ := paired1 r
    rw [rv.bl]; exact .inl (.inr ⟨_, rfl, q _ G H k (Gle.refl _) ro_int⟩)
  · split at e
    · rename_i h
      obtain ⟨n, en, rfl⟩ := Option.map_eq_some_iff.mp e
      obtain ⟨v, rfl, rv⟩ := paired1 r
      obtain ⟨rfl, _⟩ := rv.str
      exact .inr ⟨_, n, rfl, en, h, q _ G H k (Gle.refl _) ro_int⟩
    · cases e
  · cases e
end
end VL
set_option linter.all false
set_option maxRecDepth 100000
set_option maxHeartbeats 4000000
namespace VL
open PySem PySem.Spec PyProof.Rows L2

section
variable {X : Cx} {W : WX} {K : PySem.W.Frag} {F : FrD} {env : En} {σ : L2.St} {G H G' H' : Hp} {d : D} {v : V} {p : Addr} {xs : List V} {ds : List D} {k : Nat}
/-! ### displays -/
def vals : List Br → Option (List D)
  | [] => some []
  | .val d :: bs => (vals bs).map (d :: ·)
  | .slot _ :: _ => none
theorem vals_reps : ∀ {bs : List Br} {vs : List V} {ds : List D}, Paired (BR K G σ) bs vs → vals bs = some ds → Reps K G ds vs
  | [], _, _, .nil, e => by cases e; exact .nil
  | .val d :: bs, _, ds, .cons r t, e => by
    simp only [vals, Option.map_eq_some_iff] at e
    obtain ⟨es, e2, rfl⟩ := e
    exact .cons r (vals_reps t e2)
  | .slot _ :: _, _, _, _, e => by simp [vals] at e
def oLst (ta : VTA) : VTO := fun env Q E => ta env (fun bs env1 => ∃ ds, vals bs = some ds ∧ fits ds.length = true ∧ Q (.ow (.lst ds)) env1) E
theorem vo_lst {es : List Expr} {pos : Pos} {ta : VTA} (h : VA X W es ta) : VO X W (.List es pos) (oLst ta) := by
  obtain ⟨pa, p1, s1⟩ := h.ex
  refine ⟨_, pe_lst p1, fun F env σ G H Q E Qh k xo ht q => ?_⟩
  refine s1 F env σ G H _ E _ k xo ht fun bs env1 vs G1 H1 k1 g1 r1 ⟨ds, e1, e2, hq⟩ => ?_
  have rs := vals_reps r1 e1
  have hz : vs.length ≤ sizeLine := by rw [rs.len]; exact fits_ok e2
  refine ⟨hz, fun p hp => ?_⟩
  obtain ⟨k2, ro⟩ := ro_lst k1 hp hz rs
  exact q _ env1 _ _ _ k2 g1 ro hq
def oTup (ta : VTA) : VTE := fun env Q E => ta env (fun bs env1 => ∃ ds, vals bs = some ds ∧ fits ds.length = true ∧ Q (.tup ds) env1) E
theorem ve_tup {es : List Expr} {pos : Pos} {x1} {ta : VTA} (h : VA X W es ta) : VE X W (.Tuple es x1 pos) (oTup ta) := by
  obtain ⟨pa, p1, s1⟩ := h.ex
  refine ⟨_, pe_tup p1, fun F env σ G H Q E Qh k xo ht q => ?_⟩
  refine s1 F env σ G H _ E _ k xo ht fun bs env1 vs G1 H1 k1 g1 r1 ⟨ds, e1, e2, hq⟩ => ?_
  have rs := vals_reps r1 e1
  have hz : vs.length ≤ sizeLine := by rw [rs.len]; exact fits_ok e2
  refine ⟨hz, fun p hp => ?_⟩
  obtain ⟨k2, g2, rp⟩ := ro_tup k1 hp hz rs
  exact q _ env1 _ _ _ k2 (g1.trans g2) rp hq
def oDct0 : VTO := fun env Q _ => Q (.ow (.dct [])) env
theorem vo_dct0 {pos : Pos} : VO X W (.Dict [] [] pos) oDct0 := by
  refine ⟨_, pe_dnewK, fun F env σ G H Q E Qh k xo ht q p hp => ?_⟩
  obtain ⟨k2, ro⟩ := ro_dct k hp (ys := []) (kvs := []) (Nat.zero_le _) (by simp [Repk])
  exact q _ env _ _ _ k2 (Gle.refl _) ro ht

/-! ### statements -/
structure VEnds where
  nx : En → Prop
  rt : Sv → En → Prop
  bk : En → Prop := fun _ => False
  ct : En → Prop := fun _ => False
  ex : XQ := fun _ _ _ => False
abbrev VTS := VEnds → En → Prop
structure Comp (K : PySem.W.Frag) (F : FrD) (W : WX) (D : VEnds) (DD : Ends) : Prop where
  nx : ∀ env σ G H, Ok K F env σ G H → D.nx env → DD.nx σ H
  rt : ∀ r env σ G H v, Ok K F env σ G H → RO K F env σ G H r v → D.rt r env → DD.rt v H
  bk : ∀ env σ G H, Ok K F env σ G H → D.bk env → DD.bk σ H
  ct : ∀ env σ G H, Ok K F env σ G H → D.ct env → DD.ct σ H
  ex : XOk K F W D.ex
def SndS (K : PySem.W.Frag) (W : WX) (ts : TS) (t : VTS) : Prop := ∀ F env σ G H D DD, Ok K F env σ G H → Comp K F W D DD → t D env → ts DD σ H
structure VS (X : Cx) (W : WX) (st : Stmt) (t : VTS) : Prop where
  ex : ∃ ts, PS X st ts ∧ SndS X.K W ts t
structure VSs (X : Cx) (W : WX) (st : List Stmt) (t : VTS) : Prop where
  ex : ∃ ts, PSs X st ts ∧ SndS X.K W ts t
def sNext : VTS := fun D env => D.nx env
def sSeq (t u : VTS) : VTS := fun D env => t { D with nx := u D } env
theorem vss_nil : VSs X W [] sNext := ⟨_, pss_nil, fun F env σ G H D DD k c h => c.nx env σ G H k h⟩
theorem vss_cons {st : Stmt} {rest : List Stmt} {t u : VTS} (h1 : VS X W st t) (h2 : VSs X W rest u) : VSs X W (st :: rest) (sSeq t u) := by
  obtain ⟨pa, p1, s1⟩ := h1.ex
  obtain ⟨pb, p2, s2⟩ := h2.ex
  refine ⟨_, pss_cons p1 p2, fun F env σ G H D DD k c h => ?_⟩
  exact s1 F env σ G H { D with nx := u D } _ k ⟨fun env σ G H k h => s2 F env σ G H D DD k c h, c.rt, c.bk, c.ct, c.ex⟩ h
theorem vss_one {st : Stmt} {t : VTS} (h1 : VS X W st t) : VSs X W [st] t := by
  obtain ⟨pa, p1, s1⟩ := h1.ex
  exact ⟨_, pss_one p1, s1⟩
def sBrk : VTS := fun D env => D.bk env
def sCnt : VTS := fun D env => D.ct env
theorem vs_break {pos : Pos} : VS X W (.Break pos) sBrk := ⟨_, ps_break, fun F env σ G H D DD k c h => c.bk env σ G H k h⟩
theorem vs_continue {pos : Pos} : VS X W (.Continue pos) sCnt := ⟨_, ps_continue, fun F env σ G H D DD k c h => c.ct env σ G H k h⟩
theorem vs_pass {pos : Pos} : VS X W (.Pass pos) sNext := ⟨_, ps_pass, fun F env σ G H D DD k c h => c.nx env σ G H k h⟩
theorem vs_doc {x j pos pos'} : VS X W (.Expr (.Constant (.str x) j pos) pos') sNext := ⟨_, ps_doc, fun F env σ G H D DD k c h => c.nx env σ G H k h⟩
def sDrop (t : VTE) : VTS := fun D env => t env (fun _ env1 => D.nx env1) D.ex
theorem vs_expr {e : Expr} {pos : Pos} {t : VTE} (he : VE X W e t) (hs : swapsWith e none pos.line X.env = pure false := by rfl) : VS X W (.Expr e pos) (sDrop t) := by
  obtain ⟨pa, p1, s1⟩ := he.ex
  exact ⟨_, ps_expr p1 hs, fun F env σ G H D DD k c h => s1 F env σ G H _ D.ex _ k c.ex h fun d env' v G' H' k' g r hq => c.nx env' σ G' H' k' hq⟩
def sRet (t : VTO) : VTS := fun D env => t env D.rt D.ex
theorem vs_ret {e : Expr} {pos : Pos} {t : VTO} (he : VO X W e t) : VS X W (.Return (some e) pos) (sRet t) := by
  obtain ⟨pa, p1, s1⟩ := he.ex
  exact ⟨_, ps_ret p1, fun F env σ G H D DD k c h => s1 F env σ G H _ D.ex _ k c.ex h fun r env' v G' H' k' g ro hq => c.rt r env' σ G' H' v k' ro hq⟩
/-- return of a name: it moves out -/
def sRetV (i : Nat) : VTS := fun D env => match env[i]? with
  | some (.sh d) => D.rt (.sh d) env
  | some (.ow d) => D.rt (.ow d) (env.set i .un)
  | _ => False
theorem vs_retV {i : Nat} {x : Str} {pos p : Pos} (pe : PE X (.Name x p) (tVar i)) : VS X W (.Return (some (.Name x p)) pos) (sRetV i) := by
  refine ⟨_, ps_ret pe, fun F env σ G H D DD k c h => ?_⟩
  unfold sRetV at h
  cases e : env[i]? with
  | none => rw [e] at h; exact h.elim
  | some s =>
    rw [e] at h
    cases s with
    | un => exact h.elim
    | io d => exact h.elim
    | sh d =>
      obtain ⟨v, e2, r⟩ := k.slot i _ e
      exact ⟨v, e2, c.rt (.sh d) env σ G H v k r h⟩
    | ow d =>
      obtain ⟨v, e2, h1, h2⟩ := k.slot i _ e
      have hl : i < env.length := (List.getElem?_eq_some_iff.mp e).1
      have k1 : Ok X.K F (env.set i .un) σ G H := k.reword e trivial fun a h => by cases h
      refine ⟨v, e2, c.rt (.ow d) _ σ G H v k1 ⟨h1, fun a ha => ⟨h2 a ha, fun j s ej hj => ?_⟩⟩ h⟩
      by_cases y : j = i
      · subst y; rw [List.getElem?_set_self hl] at ej; cases ej; cases hj
      · rw [List.getElem?_set_ne (Ne.symm y)] at ej
        refine k.sep i j _ s a e ej (Ne.symm y) ?_ hj
        rw [e2]; exact ha
def sRetN : VTS := fun D env => D.rt (.sh .non) env
theorem vs_retN {pos : Pos} : VS X W (.Return none pos) sRetN := ⟨_, ps_retN, fun F env σ G H D DD k c h => c.rt _ env σ G H _ k ro_non h⟩
def sIf (tc : VTT) (t u : VTS) : VTS := fun D env => tc env (fun b env1 => if b = true then t D env1 else u D env1) D.ex
theorem vs_if {c : Expr} {a b : List Stmt} {pos : Pos} {tc : VTT} {t u : VTS} (hc : VT X W c tc) (ha : VSs X W a t) (hb : VSs X W b u) : VS X W (.If c a b pos) (sIf tc t u) := by
  obtain ⟨pc, p0, s0⟩ := hc.ex
  obtain ⟨pa, p1, s1⟩ := ha.ex
  obtain ⟨pb, p2, s2⟩ := hb.ex
  refine ⟨_, ps_if p0 p1 p2, fun F env σ G H D DD k c h => ?_⟩
  refine s0 F env σ G H _ D.ex _ k c.ex h fun b env' G' H' k' g hq => ?_
  cases b with
  | true => rw [if_pos rfl] at hq ⊢; exact s1 F env' σ G' H' D DD k' c hq
  | false => rw [if_neg Bool.false_ne_true] at hq ⊢; exact s2 F env' σ G' H' D DD k' c hq
theorem RO.slot {i : Nat} {r : Sv} (h : RO K F env σ G H r v) : SlR K F G H i r (some (some v)) := by
  cases r with
  | un => cases h
  | io d => cases h
  | sh d => exact ⟨v, rfl, h⟩
  | ow d => exact ⟨v, rfl, h.1, fun a ha => (h.2 a ha).1⟩
theorem RO.sep {i : Nat} {r : Sv} (h : RO K F env σ G H r v) : ∀ a, Owns r (some (some v)) a → ∀ (j : Nat) (t : Sv), j ≠ i → env[j]? = some t → ¬ Owns t (σ[j]?) a := fun a ha j t hj e => by
  cases r with
  | un => cases h
  | io d => cases h
  | sh d => cases ha
  | ow d => exact (h.2 a ha).2 j t e
def sSet (i : Nat) (t : VTO) : VTS := fun D env => t env (fun r env1 => D.nx (env1.set i r)) D.ex
theorem vs_set {i : Nat} {x : Str} {e : Expr} {t : VTO} {pos pos' : Pos} (hN : X.N.Nodup) (hi : X.N[i]? = some x) (hx : Loc X.env.scope x) (he : VO X W e t) (hs : swapsWith e (some (.Name x pos')) pos.line X.env = pure false := by rfl) (hf : X.fn x = true ∨ X.env.scope.names.lookup x = some .local := by first | exact .inl rfl | exact .inr rfl | assumption) :
    VS X W (.Assign [.Name x pos'] e pos) (sSet i t) := by
  obtain ⟨pa, p1, s1⟩ := he.ex
  refine ⟨_, ps_set hN hi hx p1 hs hf, fun F env σ G H D DD k c h => ?_⟩
  exact s1 F env σ G H _ D.ex _ k c.ex h fun r env' v G' H' k' g ro hq => c.nx _ _ G' H' (k'.put ro.slot ro.sep) hq
/-! while -/
def sWhile (tc : VTT) (tb : VTS) : VTS := fun D env => ∃ I : Nat → En → Prop, (∃ m, I m env) ∧ ∀ m env, I m env →
  tc env (fun b env1 => if b = true then tb { D with nx := fun e => ∃ m', m' < m ∧ I m' e, ct := fun e => ∃ m', m' < m ∧ I m' e, bk := D.nx } env1 else D.nx env1) D.ex
theorem vs_while {c : Expr} {body : List Stmt} {pos : Pos} {tc : VTT} {tb : VTS} (cx : VC X W k) (hc : VT X W c tc) (hb : VSs X W body tb) : VS X W (.While c body [] pos) (sWhile tc tb) := by
  obtain ⟨pc, p0, s0⟩ := hc.ex
  obtain ⟨pb, p2, s2⟩ := hb.ex
  refine ⟨_, ps_while cx.po p0 p2, fun F env σ G H D DD k c h => ?_⟩
  obtain ⟨I, ⟨m0, h0⟩, turn⟩ := h
  refine ⟨fun m σ H => ∃ env G, Ok X.K F env σ G H ∧ I m env, ⟨m0, env, G, k, h0⟩, ?_⟩
  rintro m σ H ⟨env, G, k, hI⟩
  refine s0 F env σ G H _ D.ex _ k c.ex (turn m env hI) fun b env' G' H' k' g hq => ?_
  cases b with
  | false => rw [if_neg Bool.false_ne_true] at hq ⊢; exact c.nx _ _ _ _ k' hq
  | true =>
    rw [if_pos rfl] at hq ⊢
    refine ⟨fun σ' H' => ∃ env G, Ok X.K F env σ' G H' ∧ ∃ m', m' < m ∧ I m' env, fun σ' H' ⟨env, G, k, m', hm, hI⟩ => ⟨m', hm, env, G, k, hI⟩, ?_⟩
    exact s2 F env' σ G' H' { D with nx := fun e => ∃ m', m' < m ∧ I m' e, ct := fun e => ∃ m', m' < m ∧ I m' e, bk := D.nx } _ k' ⟨fun env σ G H k h => ⟨env, G, k, h⟩, c.rt, c.nx, fun env σ G H k h => ⟨env, G, k, h⟩, c.ex⟩ hq

/-! ### what is walked -/
abbrev VTI := En → (List D → En → Prop) → XQ → Prop
/-- item k of J stands for ds[k], whenever one stands behind G1 -/
def ItOk (K : PySem.W.Frag) (G1 : Hp) (J : It) (ds : List D) : Prop :=
  ∀ F env σ G H i, Ok K F env σ G H → Gle G1 G → (i < ds.length → J.go i H) ∧ (ds.length ≤ i → J.stop i H) ∧ ∀ x H', J.yld i H x H' → ∀ d, ds[i]? = some d → ∃ G', Gle G G' ∧ Ok K F env σ G' H' ∧ Rep K G' d x
def SndI (K : PySem.W.Frag) (W : WX) (wi : TI) (t : VTI) : Prop :=
  ∀ F env σ G H Q E R, Ok K F env σ G H → XOk K F W E → t env Q E → (∀ J ds env' G' H', Ok K F env' σ G' H' → Gle G G' → ItOk K G' J ds → Q ds env' → R J H') → wi σ H R
structure VI (X : Cx) (W : WX) (tg iter : Expr) (t : VTI) : Prop where
  ex : ∃ wi, PI X tg iter wi ∧ SndI X.K W wi t
/-- a list, a frozen one -/
def iLs (t : VTE) : VTI := fun env Q E => t env (fun d env1 => ∃ ds, dLs d = some ds ∧ Q ds env1) E
theorem vi_list {tg e : Expr} {t : VTE} (h : VE X W e t) : VI X W tg e (iLs t) := by
  obtain ⟨pa, p1, s1⟩ := h.ex
  refine ⟨_, pi_list p1, fun F env σ G H Q E R k xo ht q => ?_⟩
  refine s1 F env σ G H _ E _ k xo ht fun d env1 v G1 H1 k1 g1 r1 ⟨ds, e1, hq⟩ => ?_
  obtain ⟨p, ys, rfl, hS, hz, rs⟩ := ls_of (.inl r1) k1.sub e1
  refine ⟨p, rfl, ⟨ys, hS⟩, q _ ds env1 G1 H1 k1 g1 (fun F env σ G H i k g => ?_) hq⟩
  obtain ⟨p', ys', ep, hS', hz', rs'⟩ := ls_of (.inl (r1.gle g)) k.sub e1
  cases ep
  refine ⟨fun hi => ?_, fun hi => ⟨ys', hS', by rw [rs'.len]; exact hi⟩, fun x H' hy d hd => ?_⟩
  · obtain ⟨x, hx, _⟩ := rs'.get (List.getElem?_eq_getElem hi)
    exact ⟨ys', x, hS', hx⟩
  · obtain ⟨rfl, hy⟩ := hy
    obtain ⟨x', hx, r⟩ := rs'.get hd
    rw [hy ys' hS'] at hx; cases hx
    exact ⟨G, Gle.refl G, k, r⟩
def dTs : D → Option (List D)
  | .tup ds => some ds
  | _ => none
def iTs (t : VTE) : VTI := fun env Q E => t env (fun d env1 => ∃ ds, dTs d = some ds ∧ Q ds env1) E
theorem vi_tup {tg e : Expr} {t : VTE} (h : VE X W e t) : VI X W tg e (iTs t) := by
  obtain ⟨pa, p1, s1⟩ := h.ex
  refine ⟨_, pi_tup p1, fun F env σ G H Q E R k xo ht q => ?_⟩
  refine s1 F env σ G H _ E _ k xo ht fun d env1 v G1 H1 k1 g1 r1 ⟨ds, e1, hq⟩ => ?_
  have ed : d = .tup ds := by cases d <;> simp_all [dTs]
  subst ed
  obtain ⟨p, ys, rfl, _, hS, hz, rs⟩ := RdR.tup k1.sub (.inl r1)
  refine ⟨p, rfl, ⟨ys, .of hS⟩, q _ ds env1 G1 H1 k1 g1 (fun F env σ G H i k g => ?_) hq⟩
  obtain ⟨p', ys', ep, _, hS', hz', rs'⟩ := RdR.tup k.sub (.inl (r1.gle g))
  cases ep
  refine ⟨fun hi => ?_, fun hi => ⟨ys', .of hS', by rw [rs'.len]; exact hi⟩, fun x H' hy d hd => ?_⟩
  · obtain ⟨x, hx, _⟩ := rs'.get (List.getElem?_eq_getElem hi)
    exact ⟨ys', x, .of hS', hx⟩
  · obtain ⟨rfl, hy⟩ := hy
    obtain ⟨x', hx, r⟩ := rs'.get hd
    rw [hy ys' (.of hS')] at hx; cases hx
    exact ⟨G, Gle.refl G, k, r⟩
/-- range(n) -/
def iRg (ta : VTA) : VTI := fun env Q E => ta env (fun bs env1 => ∃ n, gets env1 bs = some [.int n] ∧ (-(2 ^ 62) ≤ n ∧ n < 2 ^ 62) ∧ Q ((List.range n.toNat).map fun i => .int (i : Nat)) env1) E
theorem vi_range {tg e : Expr} {p pos : Pos} {ta : VTA} (hg : Gl X "range") (hm : X.mg "range" = none) (ha : VA X W [e] ta) (hs : starEach [e] X.env = [(false, eval e X.env)] := by rfl) : VI X W tg (.Call (.Name "range" p) [e] [] pos) (iRg ta) := by
  obtain ⟨pa, p1, s1⟩ := ha.ex
  refine ⟨_, pi_range1 hg hm p1 hs, fun F env σ G H Q E R k xo ht q => ?_⟩
  refine s1 F env σ G H _ E _ k xo ht fun bs env1 vs G1 H1 k1 g1 r1 ⟨n, e1, ⟨b1, b2⟩, hq⟩ => ?_
  obtain ⟨v, rfl, rv⟩ := paired1 (k1.reads r1 e1)
  have := rv.int; subst this
  refine ⟨n, rfl, b1, b2, q _ _ env1 G1 H1 k1 g1 (fun F env σ G H i k g => ?_) hq⟩
  refine ⟨fun hi => (by simpa using hi : i < _), fun hi => (by simpa using hi : _ ≤ i), fun x H' hy d hd => ?_⟩
  obtain ⟨rfl, rfl⟩ := hy
  rw [List.getElem?_map] at hd
  have hi : i < n.toNat := by
    rcases Nat.lt_or_ge i n.toNat with h | h
    · exact h
    · rw [List.getElem?_eq_none (by simpa using h)] at hd; cases hd
  rw [List.getElem?_range hi] at hd
  cases hd
  exact ⟨G, Gle.refl G, k, by simp [Rep]⟩
/-- range(a, b) -/
def iRg2 (ta : VTA) : VTI := fun env Q E => ta env (fun bs env1 => ∃ m n, gets env1 bs = some [.int m, .int n] ∧ (-(2 ^ 62) ≤ m ∧ m < 2 ^ 62 ∧ -(2 ^ 62) ≤ n ∧ n < 2 ^ 62) ∧ Q ((List.range (n - m).toNat).map fun i => .int (m + (i : Nat))) env1) E
theorem vi_range2 {tg e f : Expr} {p pos : Pos} {ta : VTA} (hg : Gl X "range") (hm : X.mg "range" = none) (ha : VA X W [e, f] ta) (hs : starEach [e, f] X.env = [(false, eval e X.env), (false, eval f X.env)] := by rfl) (hs2 : starEach [f] X.env = [(false, eval f X.env)] := by rfl) : VI X W tg (.Call (.Name "range" p) [e, f] [] pos) (iRg2 ta) := by
  obtain ⟨pa, p1, s1⟩ := ha.ex
  refine ⟨_, pi_range2 hg hm p1 hs hs2, fun F env σ G H Q E R k xo ht q => ?_⟩
  refine s1 F env σ G H _ E _ k xo ht fun bs env1 vs G1 H1 k1 g1 r1 ⟨m, n, e1, ⟨b1, b2, b3, b4⟩, hq⟩ => ?_
  obtain ⟨v, w, rfl, rv, rw'⟩ := paired2 (k1.reads r1 e1)
  have := rv.int; subst this
  have := rw'.int; subst this
  refine ⟨m, n, rfl, ⟨b1, b2, b3, b4⟩, q _ _ env1 G1 H1 k1 g1 (fun F env σ G H i k g => ?_) hq⟩
  refine ⟨fun hi => (by simpa using hi : i < _), fun hi => (by simpa using hi : _ ≤ i), fun x H' hy d hd => ?_⟩
  obtain ⟨rfl, rfl⟩ := hy
  rw [List.getElem?_map] at hd
  have hi : i < (n - m).toNat := by
    rcases Nat.lt_or_ge i (n - m).toNat with h | h
    · exact h
    · rw [List.getElem?_eq_none (by simpa using h)] at hd; cases hd
  rw [List.getElem?_range hi] at hd
  cases hd
  exact ⟨G, Gle.refl G, k, by simp [Rep]⟩
/-- a text's signs -/
def sgs (z : Str) : List D := z.cps.toList.map fun c => .str ⟨#[c]⟩
def iSt (t : VTE) : VTI := fun env Q E => t env (fun d env1 => ∃ z, d = .str z ∧ Q (sgs z) env1) E
theorem vi_str {tg e : Expr} {t : VTE} (h : VE X W e t) : VI X W tg e (iSt t) := by
  obtain ⟨pa, p1, s1⟩ := h.ex
  refine ⟨_, pi_str p1, fun F env σ G H Q E R k xo ht q => ?_⟩
  refine s1 F env σ G H _ E _ k xo ht fun d env1 v G1 H1 k1 g1 r1 ⟨z, e1, hq⟩ => ?_
  subst e1
  obtain ⟨rfl, hz⟩ := RdR.str (H := H1) (.inl r1)
  refine ⟨z, rfl, q _ _ env1 G1 H1 k1 g1 (fun F env σ G H i k g => ?_) hq⟩
  refine ⟨fun hi => (by simpa [sgs] using hi : i < _), fun hi => (by simpa [sgs] using hi : _ ≤ i), fun x H' hy d hd => ?_⟩
  obtain ⟨rfl, c, hc, rfl⟩ := hy
  simp only [sgs, List.getElem?_map, Array.getElem?_toList, hc, Option.map_some, Option.some.injEq] at hd
  subst hd
  exact ⟨G, Gle.refl G, k, rep_str (by show 1 ≤ sizeLine; decide)⟩
/-- the frame, its known part grown -/
def FrD.reG (F : FrD) (G : Hp) : FrD := { F with G := G }
theorem Ok.reG (k : Ok K F env σ G H) : Ok K (F.reG G) env σ G H where
  sub := k.sub
  g0 := Gle.refl G
  keep := k.keep
  new := fun a h1 h2 => h2
  wH := k.wH
  wf := fun a w => ⟨(k.wf a w).1, k.new a (k.wf a w).1 (k.wf a w).2⟩
  len := k.len
  slot := k.slot
  sep := k.sep
theorem Ok.reG' {env1 : En} {σ1 : L2.St} {G1 H1 : Hp} (k1 : Ok K F env1 σ1 G1 H1) (k : Ok K F env σ G H) (g : Gle G1 G) : Ok K (F.reG G1) env σ G H where
  sub := k.sub
  g0 := g
  keep := k.keep
  new := fun a h1 h2 => by
    cases e : F.G a with
    | none => exact k.new a h1 e
    | some o =>
      have z : G1 a = some o := k1.g0 a o e
      have h2' : G1 a = none := h2
      rw [z] at h2'; cases h2'
  wH := k.wH
  wf := fun a w => ⟨(k1.wf a w).1, k1.new a (k1.wf a w).1 (k1.wf a w).2⟩
  len := k.len
  slot := k.slot
  sep := k.sep
theorem Ok.unG {env' : En} {σ' : L2.St} (k : Ok K F env σ G H) (k' : Ok K (F.reG G) env' σ' G' H') : Ok K F env' σ' G' H' where
  sub := k'.sub
  g0 := k.g0.trans k'.g0
  keep := k'.keep
  new := fun a h1 h2 => k'.new a h1 (k.new a h1 h2)
  wH := k'.wH
  wf := k.wf
  len := k'.len
  slot := k'.slot
  sep := k'.sep
theorem XOk.reG {E : XQ} (k : Ok K F env σ G H) (x : XOk K F W E) : XOk K (F.reG G) W E := fun C fs env' σ' G' H' k' he cls d r => x C fs env' σ' G' H' (k.unG k') he cls d r
/-! ### for -/
def sFor (ti : VTI) (i : Nat) (tb : VTS) : VTS := fun D env => ti env (fun ds env1 => ∃ I : Nat → En → Prop, I 0 env1 ∧ (∀ n d env, ds[n]? = some d → I n env → tb { D with nx := I (n + 1), ct := I (n + 1), bk := D.nx } (env.set i (.sh d))) ∧ ∀ env, I ds.length env → D.nx env) D.ex
theorem vs_for {i : Nat} {x : Str} {iter : Expr} {body : List Stmt} {pos p : Pos} {ti : VTI} {tb : VTS} (cx : VC X W k) (hi : X.N[i]? = some x) (hx : Loc X.env.scope x) (h : VI X W (.Name x p) iter ti) (hb : VSs X W body tb)
    (hf : X.fn x = true ∨ X.env.scope.names.lookup x = some .local := by first | exact .inl rfl | exact .inr rfl | assumption) (hs : ∀ x, foldedSetIterable iter X.env x = pure x := by intro _; rfl) : VS X W (.For (.Name x p) iter body [] pos) (sFor ti i tb) := by
  obtain ⟨pi, p1, s1⟩ := h.ex
  obtain ⟨pb, p2, s2⟩ := hb.ex
  refine ⟨_, ps_for cx.po cx.calm p1 (pg_name cx.nd hi hx hf) p2 hs, fun F env σ G H D DD k c h => ?_⟩
  refine s1 F env σ G H _ D.ex _ k c.ex h fun J ds env1 G1 H1 k1 g1 J1 ⟨I, h0, hst, hd⟩ => ?_
  refine ⟨fun n m σ H => m = ds.length - n ∧ n ≤ ds.length ∧ ∃ env G, Ok X.K (F.reG G1) env σ G H ∧ I n env, ⟨ds.length, by simp, Nat.zero_le _, env1, G1, k1.reG, h0⟩, ?_⟩
  rintro n m σ H ⟨rfl, hn, env, G, k, hI⟩
  have kF := k1.unG k
  obtain ⟨j1, j2, j3⟩ := J1 F env σ G H n kF k.g0
  by_cases hlt : n < ds.length
  · refine .inr ⟨j1 hlt, fun σ' H' => ∃ env G, Ok X.K (F.reG G1) env σ' G H' ∧ I (n + 1) env, fun σ' H' ⟨env, G, k, hI⟩ => ⟨ds.length - (n + 1), by omega, rfl, hlt, env, G, k, hI⟩, fun y H' hy => ?_⟩
    obtain ⟨G', g', k', r⟩ := j3 y H' hy _ (List.getElem?_eq_getElem hlt)
    have k'' : Ok X.K (F.reG G1) env σ G' H' := k1.reG' k' (k.g0.trans g')
    have kp := k''.put (i := i) (s := .sh _) ⟨y, rfl, r⟩ (fun a ha => by cases ha)
    have body := hst n _ env (List.getElem?_eq_getElem hlt) hI
    exact s2 (F.reG G1) _ _ G' H' { D with nx := I (n + 1), ct := I (n + 1), bk := D.nx } _ kp
      ⟨fun env σ G H k h => ⟨env, G, k, h⟩, fun r env σ G H v k ro h => c.rt r env σ G H v (k1.unG k) ro h, fun env σ G H k h => c.nx env σ G H (k1.unG k) h, fun env σ G H k h => ⟨env, G, k, h⟩, c.ex.reG k1⟩ body
  · have e : n = ds.length := by omega
    subst e
    exact .inl ⟨j2 (Nat.le_refl _), c.nx _ _ _ _ kF (hd env hI)⟩
end
end VL
set_option linter.all false
set_option maxRecDepth 100000
set_option maxHeartbeats 4000000
namespace VL
open PySem PySem.Spec PyProof.Rows L2

/-! ### what a def promises, by deep values -/
abbrev VSp := List Sv → (Sv → List D → Prop) → (Str → List (Str × D) → List D → Prop) → Prop
def isMut : D → Bool
  | .lst _ => true | .dct _ => true
  | _ => false
def ioGet : List Sv → En → Option (List D)
  | [], _ => some []
  | .io _ :: as, .io d :: env => if isMut d = true then (ioGet as env).map (d :: ·) else none
  | .io _ :: _, _ => none
  | _ :: as, _ :: env => ioGet as env
  | _ :: as, [] => ioGet as []
def frOf (H G : Hp) (args : List Sv) (vs : List V) : FrD :=
  ⟨H, G, fun a => ∃ (i : Nat) (d : D) (v : V), args[i]? = some (.io d) ∧ vs[i]? = some v ∧ OwA d v a, fun i => match args[i]? with | some (.io _) => vs[i]? | _ => none⟩
def argOk : Sv → Bool
  | .sh _ => true
  | .io d => isMut d
  | _ => false
def toSp (K : PySem.W.Frag) (n : Nat) (S : VSp) : Sp := fun vs H Q E => vs.length = n ∧ ∃ (G : Hp) (args : List Sv) (QV : Sv → List D → Prop) (EV : Str → List (Str × D) → List D → Prop),
  Ok K (frOf H G args vs) args (vs.map some) G H ∧ args.all argOk = true ∧ S args QV EV ∧
  (∀ r ds env' σ' v G' H', Ok K (frOf H G args vs) env' σ' G' H' → RO K (frOf H G args vs) env' σ' G' H' r v → ioGet args env' = some ds → QV r ds → Q v H') ∧
  (∀ C fs ds env' σ' G' H' cls d, Ok K (frOf H G args vs) env' σ' G' H' → XRep K (frOf H G args vs) G' H' C fs cls d → ioGet args env' = some ds → EV C fs ds → E cls d H')
/-- a def that stands under the module's name x -/
structure VFn (P : Program) (w : World) (K : PySem.W.Frag) (mg : Str → Option Value) (base : Heap) (k : Nat) (x : Str) (ps : List Str) (S : VSp) : Prop where
  ex : ∃ fd, FnOk P w K mg base (L2N.CX P w) k (He.ga K x) fd ps (toSp K ps.length S) ∧ Binds K fd ps []
  kp : PySem.W.keepIn K (.ref (He.ga K x)) = true
  gl : mg x = some (.ref (He.ga K x))
/-- .. whose exceptions may have been made while another was handled -/
structure VFnW (P : Program) (w : World) (K : PySem.W.Frag) (mg : Str → Option Value) (base : Heap) (k : Nat) (x : Str) (ps : List Str) (S : VSp) : Prop where
  ex : ∃ fd, FnOk P w K mg base (L2.CX P w) k (He.ga K x) fd ps (toSp K ps.length S) ∧ Binds K fd ps []
  kp : PySem.W.keepIn K (.ref (He.ga K x)) = true
  gl : mg x = some (.ref (He.ga K x))
def slotsOf : List Br → List Nat
  | [] => []
  | .slot i :: bs => i :: slotsOf bs
  | .val _ :: bs => slotsOf bs
/-- the arguments as the callee has them -/
def sls (env : En) : List Br → Option (List Sv)
  | [] => some []
  | .val d :: bs => (sls env bs).map (.sh d :: ·)
  | .slot i :: bs => match env[i]? with
    | some (.ow d) => if isMut d then (sls env bs).map (.io d :: ·) else none
    | some (.io d) => if isMut d then (sls env bs).map (.io d :: ·) else none
    | _ => none
def retag (s : Option Sv) (d : D) : Sv := match s with
  | some (.io _) => .io d
  | _ => .ow d
def wb (env : En) : List Br → List D → En
  | [], _ => env
  | .val _ :: bs, ds => wb env bs ds
  | .slot i :: bs, d :: ds => (wb env bs ds).set i (retag env[i]? d)
  | .slot _ :: _, [] => env
section
variable {X : Cx} {W : WX} {K : PySem.W.Frag} {F : FrD} {env env' : En} {σ σ' : L2.St} {G H G' H' : Hp} {d : D} {v : V} {p a : Addr} {vs : List V} {ds : List D} {k : Nat} {bs : List Br} {args : List Sv}
theorem wb_len : ∀ {bs : List Br} {ds : List D}, (wb env bs ds).length = env.length
  | [], _ => rfl
  | .val _ :: bs, ds => by simp only [wb]; exact wb_len
  | .slot _ :: bs, d :: ds => by simp only [wb, List.length_set]; exact wb_len
  | .slot _ :: _, [] => rfl
theorem sls_len : ∀ {bs : List Br} {args : List Sv}, sls env bs = some args → args.length = bs.length
  | [], _, e => by cases e; rfl
  | .val _ :: bs, _, e => by simp only [sls, Option.map_eq_some_iff] at e; obtain ⟨as, e, rfl⟩ := e; simp [sls_len e]
  | .slot i :: bs, _, e => by
    simp only [sls] at e
    split at e
    · split at e
      · simp only [Option.map_eq_some_iff] at e; obtain ⟨as, e, rfl⟩ := e; simp [sls_len e]
      · cases e
    · split at e
      · simp only [Option.map_eq_some_iff] at e; obtain ⟨as, e, rfl⟩ := e; simp [sls_len e]
      · cases e
    · cases e
theorem sls_ok : ∀ {bs : List Br} {args : List Sv}, sls env bs = some args → args.all argOk = true
  | [], _, e => by cases e; rfl
  | .val _ :: bs, _, e => by simp only [sls, Option.map_eq_some_iff] at e; obtain ⟨as, e, rfl⟩ := e; simp [argOk, sls_ok e]
  | .slot i :: bs, _, e => by
    simp only [sls] at e
    split at e
    · split at e
      · rename_i h; simp only [Option.map_eq_some_iff] at e; obtain ⟨as, e, rfl⟩ := e; simp [argOk, h, sls_ok e]
      · cases e
    · split at e
      · rename_i h; simp only [Option.map_eq_some_iff] at e; obtain ⟨as, e, rfl⟩ := e; simp [argOk, h, sls_ok e]
      · cases e
    · cases e
theorem sls_at : ∀ {bs : List Br} {args : List Sv} {i : Nat} {s : Sv}, sls env bs = some args → args[i]? = some s →
    (∃ d, bs[i]? = some (.val d) ∧ s = .sh d) ∨ ∃ j d, bs[i]? = some (.slot j) ∧ s = .io d ∧ isMut d = true ∧ (env[j]? = some (.ow d) ∨ env[j]? = some (.io d))
  | [], _, i, s, e, h => by cases e; simp at h
  | .val d :: bs, _, i, s, e, h => by
    simp only [sls, Option.map_eq_some_iff] at e; obtain ⟨as, e, rfl⟩ := e
    cases i with
    | zero => simp at h; exact .inl ⟨d, rfl, h.symm⟩
    | succ i => simp at h; simpa using sls_at e h
  | .slot j :: bs, _, i, s, e, h => by
    simp only [sls] at e
    split at e
    · rename_i d ej
      split at e
      · rename_i hm
        simp only [Option.map_eq_some_iff] at e; obtain ⟨as, e, rfl⟩ := e
        cases i with
        | zero => simp at h; exact .inr ⟨j, d, rfl, h.symm, hm, .inl ej⟩
        | succ i => simp at h; simpa using sls_at e h
      · cases e
    · rename_i d ej
      split at e
      · rename_i hm
        simp only [Option.map_eq_some_iff] at e; obtain ⟨as, e, rfl⟩ := e
        cases i with
        | zero => simp at h; exact .inr ⟨j, d, rfl, h.symm, hm, .inr ej⟩
        | succ i => simp at h; simpa using sls_at e h
      · cases e
    · cases e
theorem slots_mem : ∀ {bs : List Br} {i j : Nat}, bs[i]? = some (.slot j) → j ∈ slotsOf bs
  | .slot _ :: bs, 0, j, h => by simp at h; subst h; simp [slotsOf]
  | .slot _ :: bs, i + 1, j, h => by simp at h; simp [slotsOf, slots_mem h]
  | .val _ :: bs, 0, j, h => by simp at h
  | .val _ :: bs, i + 1, j, h => by simp at h; simp [slotsOf, slots_mem h]
  | [], _, _, h => by simp at h
theorem mem_slots : ∀ {bs : List Br} {j : Nat}, j ∈ slotsOf bs → ∃ i : Nat, bs[i]? = some (Br.slot j)
  | .slot i :: bs, j, h => by
    simp only [slotsOf, List.mem_cons] at h
    rcases h with rfl | h
    · exact ⟨0, rfl⟩
    · obtain ⟨i, e⟩ := mem_slots h; exact ⟨i + 1, by simpa using e⟩
  | .val _ :: bs, j, h => by
    simp only [slotsOf] at h
    obtain ⟨i, e⟩ := mem_slots h; exact ⟨i + 1, by simpa using e⟩
  | [], _, h => by simp [slotsOf] at h
theorem slots_inj : ∀ {bs : List Br} {i i' j : Nat}, (slotsOf bs).Nodup → bs[i]? = some (.slot j) → bs[i']? = some (.slot j) → i = i'
  | .slot l :: bs, 0, 0, j, _, _, _ => rfl
  | .slot l :: bs, 0, i' + 1, j, n, h, h' => by
    simp at h h'; subst h; simp only [slotsOf, List.nodup_cons] at n; exact absurd (slots_mem h') n.1
  | .slot l :: bs, i + 1, 0, j, n, h, h' => by
    simp at h h'; subst h'; simp only [slotsOf, List.nodup_cons] at n; exact absurd (slots_mem h) n.1
  | .slot l :: bs, i + 1, i' + 1, j, n, h, h' => by
    simp at h h'; simp only [slotsOf, List.nodup_cons] at n; rw [slots_inj n.2 h h']
  | .val _ :: bs, 0, _, j, _, h, _ => by simp at h
  | .val _ :: bs, i + 1, 0, j, _, _, h' => by simp at h'
  | .val _ :: bs, i + 1, i' + 1, j, n, h, h' => by simp at h h'; rw [slots_inj (by simpa [slotsOf] using n) h h']
  | [], _, _, _, _, h, _ => by simp at h
theorem wb_out : ∀ {bs : List Br} {ds : List D} {j : Nat}, j ∉ slotsOf bs → (wb env bs ds)[j]? = env[j]?
  | [], _, _, _ => rfl
  | .val _ :: bs, ds, j, h => by simp only [wb]; exact wb_out (by simpa [slotsOf] using h)
  | .slot i :: bs, d :: ds, j, h => by
    simp only [slotsOf, List.mem_cons, not_or] at h
    simp only [wb]
    rw [List.getElem?_set_ne (fun z => h.1 z.symm)]; exact wb_out h.2
  | .slot _ :: _, [], _, _ => rfl
theorem wb_in : ∀ {bs : List Br} {args : List Sv} {ds : List D} {env' : En} {i j : Nat}, (slotsOf bs).Nodup → sls env bs = some args → ioGet args env' = some ds → bs[i]? = some (.slot j) →
    ∃ d d', args[i]? = some (.io d) ∧ (isMut d = true ∧ isMut d' = true) ∧ env'[i]? = some (.io d') ∧ ((env[j]? = some (.ow d) ∧ (wb env bs ds)[j]? = some (.ow d')) ∨ (env[j]? = some (.io d) ∧ (wb env bs ds)[j]? = some (.io d')))
  | [], _, _, _, _, _, _, _, _, h => by simp at h
  | .val c :: bs, _, ds, env', i, j, n, e, g, h => by
    simp only [sls, Option.map_eq_some_iff] at e; obtain ⟨as, e, rfl⟩ := e
    cases i with
    | zero => simp at h
    | succ i =>
      simp at h
      simp only [wb]
      cases env' with
      | nil =>
        simp only [ioGet] at g
        obtain ⟨d, d', h1, h2, h3, _⟩ := wb_in (i := i) (by simpa [slotsOf] using n) e g h
        simp at h3
      | cons s env' =>
        simp only [ioGet] at g
        obtain ⟨d, d', h1, h2, h3, h4⟩ := wb_in (i := i) (by simpa [slotsOf] using n) e g h
        exact ⟨d, d', by simpa using h1, h2, by simpa using h3, h4⟩
  | .slot l :: bs, _, ds, env', i, j, n, e, g, h => by
    have main : ∀ {dl : D} {as : List Sv} (tag : D → Sv), env[l]? = some (tag dl) → (∀ d', retag (some (tag dl)) d' = tag d') → (tag = .ow ∨ tag = .io) → isMut dl = true → sls env bs = some as → ioGet (.io dl :: as) env' = some ds → 
        ∃ d d', (Sv.io dl :: as)[i]? = some (.io d) ∧ (isMut d = true ∧ isMut d' = true) ∧ env'[i]? = some (.io d') ∧ ((env[j]? = some (.ow d) ∧ (wb env (.slot l :: bs) ds)[j]? = some (.ow d')) ∨ (env[j]? = some (.io d) ∧ (wb env (.slot l :: bs) ds)[j]? = some (.io d'))) := by
      intro dl as tag el rt ht hm e g
      simp only [slotsOf, List.nodup_cons] at n
      cases env' with
      | nil => simp [ioGet] at g
      | cons s env' =>
        cases s with
        | un => simp [ioGet] at g
        | sh _ => simp [ioGet] at g
        | ow _ => simp [ioGet] at g
        | io c =>
          simp only [ioGet] at g
          split at g
          case isFalse => cases g
          rename_i hmc
          simp only [Option.map_eq_some_iff] at g
          obtain ⟨ds', g', rfl⟩ := g
          simp only [wb]
          cases i with
          | zero =>
            simp at h; subst h
            have hl : l < (wb env bs ds').length := by rw [wb_len]; exact (List.getElem?_eq_some_iff.mp el).1
            refine ⟨dl, c, rfl, ⟨hm, hmc⟩, rfl, ?_⟩
            rw [List.getElem?_set_self hl, el, rt]
            rcases ht with rfl | rfl
            · exact .inl ⟨rfl, rfl⟩
            · exact .inr ⟨rfl, rfl⟩
          | succ i =>
            simp at h
            have hne : l ≠ j := fun z => n.1 (z ▸ slots_mem h)
            obtain ⟨d, d', h1, h2, h3, h4⟩ := wb_in (i := i) n.2 e g' h
            rw [List.getElem?_set_ne hne]
            exact ⟨d, d', by simpa using h1, h2, by simpa using h3, h4⟩
    simp only [sls] at e
    split at e
    · rename_i dl el
      split at e
      · rename_i hm
        simp only [Option.map_eq_some_iff] at e; obtain ⟨as, e, rfl⟩ := e
        exact main .ow el (fun _ => rfl) (.inl rfl) hm e g
      · cases e
    · rename_i dl el
      split at e
      · rename_i hm
        simp only [Option.map_eq_some_iff] at e; obtain ⟨as, e, rfl⟩ := e
        exact main .io el (fun _ => rfl) (.inr rfl) hm e g
      · cases e
    · cases e
theorem paired_at {α β : Type} {R : α → β → Prop} : ∀ {as : List α} {bs : List β} {i : Nat} {a : α}, Paired R as bs → as[i]? = some a → ∃ b, bs[i]? = some b ∧ R a b
  | _, _, 0, _, .cons r _, h => by simp at h; subst h; exact ⟨_, rfl, r⟩
  | _, _, i + 1, _, .cons _ t, h => by simp at h; obtain ⟨b, e, r⟩ := paired_at t h; exact ⟨b, by simpa using e, r⟩
  | _, _, _, _, .nil, h => by simp at h
theorem paired_len {α β : Type} {R : α → β → Prop} : ∀ {as : List α} {bs : List β}, Paired R as bs → as.length = bs.length
  | _, _, .nil => rfl
  | _, _, .cons _ t => by simp [paired_len t]
theorem owa_ref (hm : isMut d = true) (h : OwA d v a) : v = .ref a := by
  unfold OwA at h
  split at h <;> first | (subst h; rfl) | exact h.elim | cases hm
theorem owa_mut (h : isMut d = true) : OwA d (.ref a) a := by
  cases d <;> simp [isMut] at h <;> rfl
/-- the callee's entry -/
theorem Ok.enter (k : Ok K F env σ G H) (r : Paired (BR K G σ) bs vs) (e : sls env bs = some args) (n : (slotsOf bs).Nodup) : Ok K (frOf H G args vs) args (vs.map some) G H where
  sub := k.sub
  g0 := Gle.refl G
  keep := fun a o h _ => h
  new := fun a h1 h2 => h2
  wH := fun a ⟨i, d, v, h1, h2, h3⟩ => by
    rcases sls_at e h1 with ⟨c, _, z⟩ | ⟨j, c, h4, z, hm, h5⟩
    · cases z
    · cases z
      obtain ⟨v', h6, rb⟩ := paired_at r h4
      rw [h6] at h2; cases h2
      have rb : σ[j]? = some (some v) := rb
      rcases h5 with h5 | h5
      · have := (k.slot j _ h5).there (a := a) (by rw [rb]; exact h3); exact this.1
      · have := (k.slot j _ h5).there (a := a) (by rw [rb]; exact h3); exact this.1
  wf := fun a ⟨i, d, v, h1, h2, h3⟩ => by
    rcases sls_at e h1 with ⟨c, _, z⟩ | ⟨j, c, h4, z, hm, h5⟩
    · cases z
    · cases z
      obtain ⟨v', h6, rb⟩ := paired_at r h4
      rw [h6] at h2; cases h2
      have rb : σ[j]? = some (some v) := rb
      rcases h5 with h5 | h5
      · have := (k.slot j _ h5).there (a := a) (by rw [rb]; exact h3); exact this
      · have := (k.slot j _ h5).there (a := a) (by rw [rb]; exact h3); exact this
  len := by rw [sls_len e, List.length_map]; exact paired_len r
  slot := fun i s h => by
    rcases sls_at e h with ⟨c, h4, rfl⟩ | ⟨j, c, h4, rfl, hm, h5⟩
    · obtain ⟨v, h6, rb⟩ := paired_at r h4
      exact ⟨v, by simp [h6], rb⟩
    · obtain ⟨v, h6, rb⟩ := paired_at r h4
      have rb : σ[j]? = some (some v) := rb
      have ow : OwR K G H c v := by
        rcases h5 with h5 | h5
        · obtain ⟨v', e1, e2, _⟩ := k.slot j _ h5; rw [rb] at e1; cases e1; exact e2
        · obtain ⟨v', e1, e2, _⟩ := k.slot j _ h5; rw [rb] at e1; cases e1; exact e2
      refine ⟨v, by simp [h6], ow, fun a ha => ⟨i, c, v, h, h6, ha⟩, ?_⟩
      show (match args[i]? with | some (.io _) => vs[i]? | _ => none) = some v
      rw [h]; exact h6
  sep := fun i j s t a h h' hij ho ho' => by
    rcases sls_at e h with ⟨c, h4, rfl⟩ | ⟨l, c, h4, rfl, hm, h5⟩
    · cases ho
    · rcases sls_at e h' with ⟨c', h4', rfl⟩ | ⟨l', c', h4', rfl, hm', h5'⟩
      · cases ho'
      · obtain ⟨v, h6, rb⟩ := paired_at r h4
        obtain ⟨v', h6', rb'⟩ := paired_at r h4'
        have rb : σ[l]? = some (some v) := rb
        have rb' : σ[l']? = some (some v') := rb'
        have o1 : OwA c v a := by simpa [h6, Owns] using ho
        have o2 : OwA c' v' a := by simpa [h6', Owns] using ho'
        have hl : l ≠ l' := fun z => hij (slots_inj n h4 (z ▸ h4'))
        have w1 : ∃ s, env[l]? = some s ∧ Owns s (σ[l]?) a := by
          rcases h5 with h5 | h5 <;> exact ⟨_, h5, by rw [rb]; exact o1⟩
        have w2 : ∃ s, env[l']? = some s ∧ Owns s (σ[l']?) a := by
          rcases h5' with h5' | h5' <;> exact ⟨_, h5', by rw [rb']; exact o2⟩
        obtain ⟨s1, e1, e2⟩ := w1
        obtain ⟨s2, e3, e4⟩ := w2
        exact k.sep l l' s1 s2 a e1 e3 hl e2 e4
/-- behind the call -/
theorem Ok.leave (k : Ok K F env σ G H) (r : Paired (BR K G σ) bs vs) (e : sls env bs = some args) (n : (slotsOf bs).Nodup) (k' : Ok K (frOf H G args vs) env' σ' G' H') (g : ioGet args env' = some ds) : Ok K F (wb env bs ds) σ G' H' := by
  have W_is : ∀ a, (frOf H G args vs).W a → ∃ (j : Nat) (s : Sv), env[j]? = some s ∧ Owns s (σ[j]?) a := fun a ⟨i, d, v, h1, h2, h3⟩ => by
    rcases sls_at e h1 with ⟨c, _, z⟩ | ⟨j, c, h4, z, hm, h5⟩
    · cases z
    · cases z
      obtain ⟨v', h6, rb⟩ := paired_at r h4
      rw [h6] at h2; cases h2
      have rb : σ[j]? = some (some v) := rb
      rcases h5 with h5 | h5 <;> exact ⟨j, _, h5, by rw [rb]; exact h3⟩
  have W_F : ∀ a, (frOf H G args vs).W a → F.H a = none ∨ F.W a := fun a hW => by
    obtain ⟨j, s, h1, h2⟩ := W_is a hW
    have := k.slot j s h1
    cases s with
    | un => cases h2
    | sh d => cases h2
    | ow d => obtain ⟨v, e1, e2, e3⟩ := this; rw [e1] at h2; exact .inl (e3 a h2)
    | io d => obtain ⟨v, e1, e2, e3, _⟩ := this; rw [e1] at h2; exact .inr (e3 a h2)
  -- a slot that was handed in
  have passed : ∀ {i j : Nat}, bs[i]? = some (.slot j) → ∃ d d' v, isMut d = true ∧ σ[j]? = some (some v) ∧ OwR K G' H' d' v ∧ (∀ a, OwA d' v a → OwA d v a) ∧
      ((env[j]? = some (.ow d) ∧ (wb env bs ds)[j]? = some (.ow d')) ∨ (env[j]? = some (.io d) ∧ (wb env bs ds)[j]? = some (.io d'))) := fun {i j} hb => by
    obtain ⟨d, d', h1, h2, h3, h4⟩ := wb_in n e g hb
    obtain ⟨v, h6, rb⟩ := paired_at r hb
    obtain ⟨v', e1, e2, _, e4⟩ := k'.slot i _ h3
    have e5 : (match args[i]? with | some (.io _) => vs[i]? | _ => none) = some v' := e4
    rw [h1] at e5
    have e5 : vs[i]? = some v' := e5
    rw [h6] at e5; cases e5
    exact ⟨d, d', v, h2.1, rb, e2, fun a ha => by rw [owa_ref h2.2 ha]; exact owa_mut h2.1, h4⟩
  have owner : ∀ {j : Nat} {s : Sv} {a : Addr}, (wb env bs ds)[j]? = some s → Owns s (σ[j]?) a → ∃ s', env[j]? = some s' ∧ Owns s' (σ[j]?) a := fun {j s a} h1 h2 => by
    by_cases hj : j ∈ slotsOf bs
    · obtain ⟨i, hi⟩ := mem_slots hj
      obtain ⟨d, d', v, _, hv, _, ho, hh⟩ := passed hi
      rcases hh with ⟨e1, e2⟩ | ⟨e1, e2⟩
      · rw [e2] at h1; cases h1; rw [hv] at h2 ⊢; exact ⟨_, e1, ho a h2⟩
      · rw [e2] at h1; cases h1; rw [hv] at h2 ⊢; exact ⟨_, e1, ho a h2⟩
    · rw [wb_out hj] at h1; exact ⟨s, h1, h2⟩
  refine { sub := k'.sub, g0 := k.g0.trans k'.g0, keep := fun a o h w => ?_, new := fun a h1 h2 => ?_, wH := fun a h => ?_, wf := k.wf, len := by rw [wb_len]; exact k.len, slot := fun j s h => ?_, sep := fun i j s t a h1 h2 hij o1 o2 => ?_ }
  · refine k'.keep a o (k.keep a o h w) fun hW => ?_
    rcases W_F a hW with z | z
    · rw [z] at h; cases h
    · exact w z
  · have hH : H a ≠ none := by
      cases q : F.H a with
      | none => exact absurd q h1
      | some o =>
        by_cases w : F.W a
        · exact k.wH a w
        · rw [k.keep a o q w]; simp
    exact k'.new a hH (k.new a h1 h2)
  · have hH := k.wH a h
    by_cases hW : (frOf H G args vs).W a
    · exact k'.wH a hW
    · cases q : H a with
      | none => exact absurd q hH
      | some o => rw [k'.keep a o q hW]; simp
  · by_cases hj : j ∈ slotsOf bs
    · obtain ⟨i, hi⟩ := mem_slots hj
      obtain ⟨d, d', v, _, hv, hO, ho, hh⟩ := passed hi
      rcases hh with ⟨e1, e2⟩ | ⟨e1, e2⟩
      · rw [e2] at h; cases h
        obtain ⟨v', q1, q2, q3⟩ := k.slot j _ e1
        rw [hv] at q1; cases q1
        exact ⟨v, hv, hO, fun a ha => q3 a (ho a ha)⟩
      · rw [e2] at h; cases h
        obtain ⟨v', q1, q2, q3, q4⟩ := k.slot j _ e1
        rw [hv] at q1; cases q1
        exact ⟨v, hv, hO, fun a ha => q3 a (ho a ha), q4⟩
    · rw [wb_out hj] at h
      have notW : ∀ a, Owns s (σ[j]?) a → ¬ (frOf H G args vs).W a := fun a ha hW => by
        obtain ⟨i, d, v, h1, h2, h3⟩ := hW
        rcases sls_at e h1 with ⟨c, _, z⟩ | ⟨l, c, h4, z, hm, h5⟩
        · cases z
        · cases z
          obtain ⟨v', h6, rb⟩ := paired_at r h4
          rw [h6] at h2; cases h2
          have rb : σ[l]? = some (some v) := rb
          have hl : l ≠ j := fun z => hj (z ▸ slots_mem h4)
          rcases h5 with h5 | h5
          · exact k.sep l j _ s a h5 h hl (by rw [rb]; exact h3) ha
          · exact k.sep l j _ s a h5 h hl (by rw [rb]; exact h3) ha
      refine ((k.slot j s h).heap (H' := H') fun a ha => ?_).gle k'.g0 fun a ha => ?_
      · have th := (k.slot j s h).there ha
        cases q : H a with
        | none => exact absurd q th.1
        | some o => exact k'.keep a o q (notW a ha)
      · have th := (k.slot j s h).there ha
        exact k'.new a th.1 th.2
  · obtain ⟨s', e1, e2⟩ := owner h1 o1
    obtain ⟨t', e3, e4⟩ := owner h2 o2
    exact k.sep i j s' t' a e1 e3 hij e2 e4
end
end VL
set_option linter.all false
set_option maxRecDepth 100000
set_option maxHeartbeats 4000000
namespace VL
open PySem PySem.Spec PyProof.Rows L2

section
variable {X : Cx} {W : WX} {K : PySem.W.Frag} {F : FrD} {env env' : En} {σ σ' : L2.St} {G H G' H' : Hp} {d : D} {v : V} {p a : Addr} {vs : List V} {ds : List D} {k : Nat} {bs : List Br} {args : List Sv}
/-! ### a def, by its body -/
def padE (n : Nat) (args : List Sv) : En := args ++ List.replicate (n - args.length) .un
theorem Ok.pad (k : Ok K F args (vs.map some) G H) (n : Nat) : Ok K F (padE n args) (vs.map some ++ List.replicate (n - vs.length) none) G H where
  sub := k.sub
  g0 := k.g0
  keep := k.keep
  new := k.new
  wH := k.wH
  wf := k.wf
  len := by
    have := k.len
    simp only [List.length_map] at this
    simp [padE, this]
  slot := fun i s h => by
    have hl : args.length = vs.length := by simpa using k.len
    unfold padE at h
    by_cases hi : i < args.length
    · rw [List.getElem?_append_left hi] at h
      rw [List.getElem?_append_left (by simp; omega)]
      exact k.slot i s h
    · rw [List.getElem?_append_right (by omega), List.getElem?_replicate] at h
      split at h
      · cases h; trivial
      · cases h
  sep := fun i j s t a h1 h2 hij o1 o2 => by
    have hl : args.length = vs.length := by simpa using k.len
    have fix : ∀ {i : Nat} {s : Sv}, (padE n args)[i]? = some s → Owns s ((vs.map some ++ List.replicate (n - vs.length) none)[i]?) a → args[i]? = some s ∧ Owns s ((vs.map some)[i]?) a := fun {i s} h o => by
      unfold padE at h
      by_cases hi : i < args.length
      · rw [List.getElem?_append_left hi] at h
        rw [List.getElem?_append_left (by simp; omega)] at o
        exact ⟨h, o⟩
      · rw [List.getElem?_append_right (by omega), List.getElem?_replicate] at h
        split at h
        · cases h; cases o
        · cases h
    obtain ⟨e1, o1'⟩ := fix h1 o1
    obtain ⟨e2, o2'⟩ := fix h2 o2
    exact k.sep i j s t a e1 e2 hij o1' o2'
/-- what is wanted at the ends of a body -/
def bodyEnds (args : List Sv) (QV : Sv → List D → Prop) (EV : Str → List (Str × D) → List D → Prop) : VEnds where
  nx := fun env => ∃ ds, ioGet args env = some ds ∧ QV (.sh .non) ds
  rt := fun r env => ∃ ds, ioGet args env = some ds ∧ QV r ds
  ex := fun C fs env => ∃ ds, ioGet args env = some ds ∧ EV C fs ds
theorem fnok_mk {P : Program} {w : World} {mg : Str → Option Value} {base : Heap} {x qual : Str} {params : Arguments} {body : List Stmt} {scope : Scope} {kws : List (Str × V)} {fd : FuncData} {N ps : List Str} {k : Nat} {S : VSp} (T : VTS)
    (Fd : FunD K x qual params body scope [] kws (He.ga K x) fd) (Sc : FnScope N ps scope)
    (hbody : ∀ (cdv : Value) (A : Around) (outer : List Env) (s : Shared) (H : Hp) (E : XK), Room k (A.deeper (envOfC qual scope s.heap.objs.size (He.ga K x) cdv)) →
      VC (cxOf (L2N.CX P w) P w K mg base N qual scope (He.ga K x) cdv A outer s H E) (fun cls d _ H => E cls d H) k →
      VSs (cxOf (L2N.CX P w) P w K mg base N qual scope (He.ga K x) cdv A outer s H E) (fun cls d _ H => E cls d H) body T)
    (pure : ∀ args QV EV, args.length = ps.length → args.all argOk = true → S args QV EV → T (bodyEnds args QV EV) (padE N.length args)) : FnOk P w K mg base (L2N.CX P w) (k + 1) (He.ga K x) fd ps (toSp K ps.length S) := by
  refine Fd.ok Sc (fun vs H Q E h => h.1) fun cdv A outer s H vs Q E hr hsp => ?_
  obtain ⟨hlen, G, args, QV, EV, k0, ha, hS, hQ, hE⟩ := hsp
  have vc : VC (cxOf (L2N.CX P w) P w K mg base N qual scope (He.ga K x) cdv A outer s H E) (fun cls d _ H => E cls d H) k :=
    ⟨rfl, L2N.takes_of rfl rfl rfl rfl, passes_of rfl, hr, Sc.nd⟩
  obtain ⟨ts, p, snd⟩ := (hbody cdv A outer s H E hr vc).ex
  refine ⟨ts, p, ?_⟩
  have hl : args.length = ps.length := by have := k0.len; simp only [List.length_map] at this; omega
  refine snd (frOf H G args vs) _ _ G H (bodyEnds args QV EV) _ (k0.pad N.length) ⟨?_, ?_, ?_, ?_, ?_⟩ (pure args QV EV hl ha hS)
  · rintro env σ G' H' k' ⟨ds, g, q⟩
    exact hQ (.sh .non) ds env σ .non G' H' k' ro_non g q
  · rintro r env σ G' H' v k' ro ⟨ds, g, q⟩
    exact hQ r ds env σ v G' H' k' ro g q
  · intro env σ G' H' k' h; exact h.elim
  · intro env σ G' H' k' h; exact h.elim
  · rintro C fs env σ G' H' k' ⟨ds, g, q⟩ cls d xr
    exact hE C fs ds env σ G' H' cls d k' xr g q
theorem vfn_mk {P : Program} {w : World} {mg : Str → Option Value} {base : Heap} {x qual : Str} {params : Arguments} {body : List Stmt} {scope : Scope} {kws : List (Str × V)} {fd : FuncData} {N ps : List Str} {k : Nat} {S : VSp} (T : VTS)
    (Fd : FunD K x qual params body scope [] kws (He.ga K x) fd) (gl : mg x = some (.ref (He.ga K x))) (Sc : FnScope N ps scope)
    (hb : ∀ (kV doc pm : Value) (an : Option Addr) (cdv ct : Value) (us : List Value), us.length = ps.length → bindArgs (PySem.W.fnOf x qual params body scope .none kV doc pm an cdv ct) ⟨us, []⟩ = pure (ps.zip us))
    (hbody : ∀ (cdv : Value) (A : Around) (outer : List Env) (s : Shared) (H : Hp) (E : XK), Room k (A.deeper (envOfC qual scope s.heap.objs.size (He.ga K x) cdv)) →
      VC (cxOf (L2N.CX P w) P w K mg base N qual scope (He.ga K x) cdv A outer s H E) (fun cls d _ H => E cls d H) k →
      VSs (cxOf (L2N.CX P w) P w K mg base N qual scope (He.ga K x) cdv A outer s H E) (fun cls d _ H => E cls d H) body T)
    (pure : ∀ args QV EV, args.length = ps.length → args.all argOk = true → S args QV EV → T (bodyEnds args QV EV) (padE N.length args)) : VFn P w K mg base (k + 1) x ps S :=
  ⟨⟨fd, fnok_mk T Fd Sc hbody pure, Fd.bindsN hb⟩, Fd.kp, gl⟩
theorem fnok_mkW {P : Program} {w : World} {mg : Str → Option Value} {base : Heap} {x qual : Str} {params : Arguments} {body : List Stmt} {scope : Scope} {kws : List (Str × V)} {fd : FuncData} {N ps : List Str} {k : Nat} {S : VSp} (T : VTS)
    (Fd : FunD K x qual params body scope [] kws (He.ga K x) fd) (Sc : FnScope N ps scope)
    (hbody : ∀ (cdv : Value) (A : Around) (outer : List Env) (s : Shared) (H : Hp) (E : XK), Room k (A.deeper (envOfC qual scope s.heap.objs.size (He.ga K x) cdv)) →
      VCw (cxOf (L2.CX P w) P w K mg base N qual scope (He.ga K x) cdv A outer s H E) (fun cls d _ H => E cls d H) k →
      VSs (cxOf (L2.CX P w) P w K mg base N qual scope (He.ga K x) cdv A outer s H E) (fun cls d _ H => E cls d H) body T)
    (pure : ∀ args QV EV, args.length = ps.length → args.all argOk = true → S args QV EV → T (bodyEnds args QV EV) (padE N.length args)) : FnOk P w K mg base (L2.CX P w) (k + 1) (He.ga K x) fd ps (toSp K ps.length S) := by
  refine Fd.ok Sc (fun vs H Q E h => h.1) fun cdv A outer s H vs Q E hr hsp => ?_
  obtain ⟨hlen, G, args, QV, EV, k0, ha, hS, hQ, hE⟩ := hsp
  have vc : VCw (cxOf (L2.CX P w) P w K mg base N qual scope (He.ga K x) cdv A outer s H E) (fun cls d _ H => E cls d H) k :=
    ⟨⟨rfl, takesN (L2.takes_of rfl rfl rfl rfl), passes_of rfl, hr, Sc.nd⟩, L2.takes_of rfl rfl rfl rfl, L2H.passesAt_of rfl⟩
  obtain ⟨ts, p, snd⟩ := (hbody cdv A outer s H E hr vc).ex
  refine ⟨ts, p, ?_⟩
  have hl : args.length = ps.length := by have := k0.len; simp only [List.length_map] at this; omega
  refine snd (frOf H G args vs) _ _ G H (bodyEnds args QV EV) _ (k0.pad N.length) ⟨?_, ?_, ?_, ?_, ?_⟩ (pure args QV EV hl ha hS)
  · rintro env σ G' H' k' ⟨ds, g, q⟩
    exact hQ (.sh .non) ds env σ .non G' H' k' ro_non g q
  · rintro r env σ G' H' v k' ro ⟨ds, g, q⟩
    exact hQ r ds env σ v G' H' k' ro g q
  · intro env σ G' H' k' h; exact h.elim
  · intro env σ G' H' k' h; exact h.elim
  · rintro C fs env σ G' H' k' ⟨ds, g, q⟩ cls d xr
    exact hE C fs ds env σ G' H' cls d k' xr g q
theorem vfn_mkW {P : Program} {w : World} {mg : Str → Option Value} {base : Heap} {x qual : Str} {params : Arguments} {body : List Stmt} {scope : Scope} {kws : List (Str × V)} {fd : FuncData} {N ps : List Str} {k : Nat} {S : VSp} (T : VTS)
    (Fd : FunD K x qual params body scope [] kws (He.ga K x) fd) (gl : mg x = some (.ref (He.ga K x))) (Sc : FnScope N ps scope)
    (hb : ∀ (kV doc pm : Value) (an : Option Addr) (cdv ct : Value) (us : List Value), us.length = ps.length → bindArgs (PySem.W.fnOf x qual params body scope .none kV doc pm an cdv ct) ⟨us, []⟩ = pure (ps.zip us))
    (hbody : ∀ (cdv : Value) (A : Around) (outer : List Env) (s : Shared) (H : Hp) (E : XK), Room k (A.deeper (envOfC qual scope s.heap.objs.size (He.ga K x) cdv)) →
      VCw (cxOf (L2.CX P w) P w K mg base N qual scope (He.ga K x) cdv A outer s H E) (fun cls d _ H => E cls d H) k →
      VSs (cxOf (L2.CX P w) P w K mg base N qual scope (He.ga K x) cdv A outer s H E) (fun cls d _ H => E cls d H) body T)
    (pure : ∀ args QV EV, args.length = ps.length → args.all argOk = true → S args QV EV → T (bodyEnds args QV EV) (padE N.length args)) : VFnW P w K mg base (k + 1) x ps S :=
  ⟨⟨fd, fnok_mkW T Fd Sc hbody pure, Fd.bindsN hb⟩, Fd.kp, gl⟩
/-! ### a call of a def -/
def oCall (n : Nat) (S : VSp) (ta : VTA) : VTO := fun env Q E => ta env (fun bs env1 => ∃ args, sls env1 bs = some args ∧ args.length = n ∧ (slotsOf bs).Nodup ∧
  S args (fun r ds => Q r (wb env1 bs ds)) (fun C fs ds => E C fs (wb env1 bs ds))) E
theorem owns_wb (k : Ok K F env σ G H) (r : Paired (BR K G σ) bs vs) (e : sls env bs = some args) (n : (slotsOf bs).Nodup) (k' : Ok K (frOf H G args vs) env' σ' G' H') (g : ioGet args env' = some ds) {a : Addr} (hH : H a = none) :
    ∀ (i : Nat) (s : Sv), (wb env bs ds)[i]? = some s → ¬ Owns s (σ[i]?) a := fun i s h ho => by
  by_cases hj : i ∈ slotsOf bs
  · obtain ⟨l, hl⟩ := mem_slots hj
    obtain ⟨d, d', h1, h2, h3, h4⟩ := wb_in n e g hl
    obtain ⟨v, h6, rb⟩ := paired_at r hl
    have rb : σ[i]? = some (some v) := rb
    have hv : v = .ref a := by
      rcases h4 with ⟨_, e2⟩ | ⟨_, e2⟩ <;> (rw [e2] at h; cases h; rw [rb] at ho; exact owa_ref h2.2 ho)
    subst hv
    rcases h4 with ⟨e1, _⟩ | ⟨e1, _⟩
    · have := (k.slot i _ e1).there (a := a) (by rw [rb]; exact owa_mut h2.1); exact this.1 hH
    · have := (k.slot i _ e1).there (a := a) (by rw [rb]; exact owa_mut h2.1); exact this.1 hH
  · rw [wb_out hj] at h
    exact ((k.slot i s h).there ho).1 hH
theorem vo_call {j : Nat} {x : Str} {ps : List Str} {S : VSp} {q pos : Pos} {e : Expr} {es : List Expr} {ta : VTA} (cx : VC X W k) (Fn : VFn X.prog X.w X.K X.mg X.base j x ps S) (hj : j ≤ k) (hg : Gl X x) (ha : VA X W (e :: es) ta)
    (hdb : (x == ("__debug__" : Str)) = false := by decide) (he : starEach (e :: es) X.env = (false, eval e X.env) :: starEach es X.env := by rfl) (hpl : (backTo pos (starEach es X.env)).any (·.1) = false := by rfl) :
    VO X W (.Call (.Name x q) (e :: es) [] pos) (oCall ps.length S ta) := by
  obtain ⟨fd, fok, bd⟩ := Fn.ex
  obtain ⟨pa, p1, s1⟩ := ha.ex
  refine ⟨_, pe_callSD (E := fun σ cls d H => W cls d σ H) fok (cx.hr.mono hj) hg Fn.gl Fn.kp bd .nil (fun σ => L2N.passAt cx.tk σ) p1 hdb he hpl, fun F env σ G H Q E Qh k xo ht q => ?_⟩
  refine s1 F env σ G H _ E _ k xo ht fun bs env1 vs G1 H1 k1 g1 r1 ⟨args, e1, l1, n1, hS⟩ => ?_
  have kE := k1.enter r1 e1 n1
  have hlen : (vs ++ []).length = ps.length := by
    rw [List.append_nil, ← paired_len r1, ← sls_len e1]; exact l1
  refine ⟨hlen, G1, args, _, _, by simpa using kE, sls_ok e1, hS, ?_, ?_⟩
  · intro r ds env' σ' v G' H' k' ro g hq
    rw [List.append_nil] at k' ro
    have kL := k1.leave r1 e1 n1 k' g
    refine q r _ v G' H' kL (g1.trans k'.g0) ?_ hq
    cases r with
    | un => cases ro
    | io d => cases ro
    | sh d => exact ro
    | ow d =>
      refine ⟨ro.1, fun a ha => ?_⟩
      have hH : H1 a = none := (ro.2 a ha).1
      exact ⟨k1.fnone hH, owns_wb k1 r1 e1 n1 k' g hH⟩
  · intro C fs ds env' σ' G' H' cls d k' xr g hq
    rw [List.append_nil] at k' xr
    have kL := k1.leave r1 e1 n1 k' g
    refine xo C fs _ σ G' H' kL hq cls d ?_
    obtain ⟨h1, h2⟩ := xr
    refine ⟨h1, ?_⟩
    rcases h2 with h2 | ⟨dd, ys, e2, e3, e4, e5, e6⟩
    · exact .inl h2
    · have e6 : H1 dd = none := e6
      exact .inr ⟨dd, ys, e2, e3, e4, e5, k1.fnone e6⟩
theorem vo_callW {j : Nat} {x : Str} {ps : List Str} {S : VSp} {q pos : Pos} {e : Expr} {es : List Expr} {ta : VTA} (cx : VCw X W k) (Fn : VFnW X.prog X.w X.K X.mg X.base j x ps S) (hj : j ≤ k) (hg : Gl X x) (ha : VA X W (e :: es) ta)
    (hdb : (x == ("__debug__" : Str)) = false := by decide) (he : starEach (e :: es) X.env = (false, eval e X.env) :: starEach es X.env := by rfl) (hpl : (backTo pos (starEach es X.env)).any (·.1) = false := by rfl) :
    VO X W (.Call (.Name x q) (e :: es) [] pos) (oCall ps.length S ta) := by
  obtain ⟨fd, fok, bd⟩ := Fn.ex
  obtain ⟨pa, p1, s1⟩ := ha.ex
  refine ⟨_, pe_callSD (E := fun σ cls d H => W cls d σ H) fok (cx.hr.mono hj) hg Fn.gl Fn.kp bd .nil (fun σ => L2.passAt cx.tkw σ) p1 hdb he hpl, fun F env σ G H Q E Qh k xo ht q => ?_⟩
  refine s1 F env σ G H _ E _ k xo ht fun bs env1 vs G1 H1 k1 g1 r1 ⟨args, e1, l1, n1, hS⟩ => ?_
  have kE := k1.enter r1 e1 n1
  have hlen : (vs ++ []).length = ps.length := by
    rw [List.append_nil, ← paired_len r1, ← sls_len e1]; exact l1
  refine ⟨hlen, G1, args, _, _, by simpa using kE, sls_ok e1, hS, ?_, ?_⟩
  · intro r ds env' σ' v G' H' k' ro g hq
    rw [List.append_nil] at k' ro
    have kL := k1.leave r1 e1 n1 k' g
    refine q r _ v G' H' kL (g1.trans k'.g0) ?_ hq
    cases r with
    | un => cases ro
    | io d => cases ro
    | sh d => exact ro
    | ow d =>
      refine ⟨ro.1, fun a ha => ?_⟩
      have hH : H1 a = none := (ro.2 a ha).1
      exact ⟨k1.fnone hH, owns_wb k1 r1 e1 n1 k' g hH⟩
  · intro C fs ds env' σ' G' H' cls d k' xr g hq
    rw [List.append_nil] at k' xr
    have kL := k1.leave r1 e1 n1 k' g
    refine xo C fs _ σ G' H' kL hq cls d ?_
    obtain ⟨h1, h2⟩ := xr
    refine ⟨h1, ?_⟩
    rcases h2 with h2 | ⟨dd, ys, e2, e3, e4, e5, e6⟩
    · exact .inl h2
    · have e6 : H1 dd = none := e6
      exact .inr ⟨dd, ys, e2, e3, e4, e5, k1.fnone e6⟩
end
end VL
set_option linter.all false
set_option maxRecDepth 100000
set_option maxHeartbeats 4000000
namespace VL
open PySem PySem.Spec PyProof.Rows L2

section
variable {X : Cx} {W : WX} {K : PySem.W.Frag} {F : FrD} {env env' : En} {σ σ' : L2.St} {G H G' H' : Hp} {d : D} {v : V} {p a : Addr} {vs : List V} {ds : List D} {k : Nat} {o o' : HO}
/-! ### one more object in the frame -/
def FrD.add (F : FrD) (p : Addr) (o : HO) : FrD := { F with H := upd F.H p o }
theorem Ok.add (k : Ok K F env σ G H) (hp : H p = some o) (hF : F.H p = none) (hG : G p = none) (hn : ∀ (i : Nat) (s : Sv), env[i]? = some s → ¬ Owns s (σ[i]?) p) : Ok K (F.add p o) env σ G H where
  sub := k.sub
  g0 := k.g0
  keep := fun a u e w => by
    by_cases z : a = p
    · subst z
      have e : upd F.H a o a = some u := e
      rw [upd_same] at e; cases e; exact hp
    · have e : upd F.H p o a = some u := e
      rw [upd_ne z] at e; exact k.keep a u e w
  new := fun a h1 h2 => by
    by_cases z : a = p
    · subst z; exact hG
    · have h1 : upd F.H p o a ≠ none := h1
      rw [upd_ne z] at h1; exact k.new a h1 h2
  wH := k.wH
  wf := fun a w => ⟨by
    show upd F.H p o a ≠ none
    by_cases z : a = p
    · subst z; rw [upd_same]; simp
    · rw [upd_ne z]; exact (k.wf a w).1, (k.wf a w).2⟩
  len := k.len
  slot := fun i s e => by
    have := k.slot i s e
    cases s with
    | un => trivial
    | sh d => exact this
    | ow d =>
      obtain ⟨v, e1, h1, h2⟩ := this
      refine ⟨v, e1, h1, fun a ha => ?_⟩
      have : a ≠ p := fun z => hn i _ e (by rw [e1]; exact z ▸ ha)
      show upd F.H p o a = none
      rw [upd_ne this]; exact h2 a ha
    | io d => exact this
  sep := k.sep
theorem Ok.unadd (k : Ok K (F.add p o) env σ G H) (hF : F.H p = none) (hW : ¬ F.W p) : Ok K F env σ G H ∧ H p = some o ∧ G p = G p ∧ ∀ (i : Nat) (s : Sv), env[i]? = some s → ¬ Owns s (σ[i]?) p := by
  have ne : ∀ {a u}, F.H a = some u → a ≠ p := fun e z => by subst z; rw [hF] at e; cases e
  refine ⟨{ sub := k.sub, g0 := k.g0, keep := fun a u e w => k.keep a u ((upd_ne (ne e)).trans e) w, new := fun a h1 h2 => k.new a (fun z => h1 ?_) h2, wH := k.wH, wf := fun a w => ⟨fun z => ?_, (k.wf a w).2⟩, len := k.len, slot := fun i s e => ?_, sep := k.sep }, k.keep p o upd_same hW, rfl, fun i s e ho => ?_⟩
  · by_cases y : a = p
    · subst y; exact hF
    · have z : upd F.H p o a = none := z
      rw [upd_ne y] at z; exact z
  · have hne : a ≠ p := fun y => hW (y ▸ w)
    refine (k.wf a w).1 ?_
    show upd F.H p o a = none
    rw [upd_ne hne]; exact z
  · have := k.slot i s e
    cases s with
    | un => trivial
    | sh d => exact this
    | ow d =>
      obtain ⟨v, e1, h1, h2⟩ := this
      refine ⟨v, e1, h1, fun a ha => ?_⟩
      have z : upd F.H p o a = none := h2 a ha
      by_cases y : a = p
      · subst y; exact hF
      · rw [upd_ne y] at z; exact z
    | io d => exact this
  · have := k.slot i s e
    cases s with
    | un => cases ho
    | sh d => cases ho
    | ow d =>
      obtain ⟨v, e1, h1, h2⟩ := this
      rw [e1] at ho
      have z : upd F.H p o p = none := h2 p ho
      rw [upd_same] at z; cases z
    | io d =>
      obtain ⟨v, e1, h1, h2, _⟩ := this
      rw [e1] at ho
      exact hW (h2 p ho)
theorem Ok.addG (k : Ok K (F.add p o) env σ G H) (hG : F.G p = none) : G p = none := k.new p (by show upd F.H p o p ≠ none; rw [upd_same]; simp) hG
/-- a private object is changed -/
theorem Ok.touch (k : Ok K F env σ G H) (hH : H p ≠ none) (hF : F.H p = none) (hG : G p = none) (hn : ∀ (i : Nat) (s : Sv), env[i]? = some s → ¬ Owns s (σ[i]?) p) : Ok K F env σ G (upd H p o) where
  sub := k.sub.upd hG
  g0 := k.g0
  keep := fun a u e w => by
    have hne : a ≠ p := fun z => by subst z; rw [hF] at e; cases e
    rw [upd_ne hne]; exact k.keep a u e w
  new := k.new
  wH := fun a w => by
    by_cases z : a = p
    · subst z; rw [upd_same]; simp
    · rw [upd_ne z]; exact k.wH a w
  wf := k.wf
  len := k.len
  slot := fun i s e => (k.slot i s e).heap fun a ha => by rw [upd_ne (fun z : a = p => hn i s e (by rw [← z]; exact ha))]
  sep := k.sep
theorem XOk.add {E : XQ} (hF : F.H p = none) (hW : ¬ F.W p) (x : XOk K F W E) : XOk K (F.add p o) W E := fun C fs env' σ' G' H' k' he cls d ⟨h1, h2⟩ =>
  x C fs env' σ' G' H' (k'.unadd hF hW).1 he cls d ⟨h1, by
    rcases h2 with h2 | ⟨dd, ys, e2, e3, e4, e5, e6⟩
    · exact .inl h2
    · refine .inr ⟨dd, ys, e2, e3, e4, e5, ?_⟩
      have z : upd F.H p o dd = none := e6
      by_cases y : dd = p
      · subst y; exact hF
      · rw [upd_ne y] at z; exact z⟩
/-! ### a list comprehension over one name -/
def keepS : Sv → Sv
  | .sh d => .sh d
  | _ => .un
structure VTs (X : Cx) (W : WX) (ifs : List Expr) (t : VTT) : Prop where
  ex : ∃ te, PTs X ifs te ∧ SndT X.K W te t
def tYes2 : VTT := fun env Q _ => Q true env
theorem vts_nil : VTs X W [] tYes2 := ⟨_, pts_nil, fun F env σ G H Q E Qh k xo ht q => q true env G H k (Gle.refl _) ht⟩
theorem vts_one {c : Expr} {t : VTT} (h : VT X W c t) : VTs X W [c] t := by
  obtain ⟨te, p, s⟩ := h.ex
  exact ⟨_, pts_one p, s⟩
/-- where one stands within a comprehension -/
abbrev WF : WX := fun _ _ _ _ => False
theorem VCw.blk (c : VCw X W k) (s : Shared) (H : Hp) (scope : Scope) (cenv : Env) (fp : List Addr) : VCw (X.blk s H scope cenv fp) WF k := ⟨⟨c.calm, takes0N, PassesOwn.never, c.hr, c.nd⟩, takes0, fun _ => PassesOwnAt.never⟩
theorem VC.blk (c : VC X W k) (s : Shared) (H : Hp) (scope : Scope) (cenv : Env) (fp : List Addr) : VC (X.blk s H scope cenv fp) WF k := ⟨c.calm, takes0N, PassesOwn.never, c.hr, c.nd⟩
theorem Ok.wipe1 {i : Nat} {s0 : Sv} (k : Ok K F env σ G H) (h : env[i]? = some s0) : Ok K F (env.set i (keepS s0)) σ G H := by
  cases s0 with
  | un => exact k.reword h trivial fun a h => by cases h
  | sh d => exact k.reword h (k.slot i _ h) fun a h => by cases h
  | ow d => exact k.reword h trivial fun a h => by cases h
  | io d => exact k.reword h trivial fun a h => by cases h
/-- the slot's value goes, its word with it -/
theorem Ok.setAny {i : Nat} {x : Option V} (k : Ok K F env σ G H) : Ok K F (env.set i .un) (σ.set i x) G H where
  sub := k.sub
  g0 := k.g0
  keep := k.keep
  new := k.new
  wH := k.wH
  wf := k.wf
  len := by simp [k.len]
  slot := fun j t e => by
    by_cases z : j = i
    · subst z
      have hj : j < env.length := by have := (List.getElem?_eq_some_iff.mp e).1; simpa using this
      rw [List.getElem?_set_self hj] at e; cases e; trivial
    · rw [List.getElem?_set_ne (Ne.symm z)] at e ⊢; exact k.slot j t e
  sep := fun j l s1 t1 a e1 e2 hjl h1 h2 => by
    have fix : ∀ {j : Nat} {s1 : Sv}, (env.set i .un)[j]? = some s1 → Owns s1 ((σ.set i x)[j]?) a → env[j]? = some s1 ∧ Owns s1 (σ[j]?) a := fun {j s1} e h => by
      by_cases z : j = i
      · subst z
        have hj : j < env.length := by have := (List.getElem?_eq_some_iff.mp e).1; simpa using this
        rw [List.getElem?_set_self hj] at e; cases e; cases h
      · rw [List.getElem?_set_ne (Ne.symm z)] at e h; exact ⟨e, h⟩
    obtain ⟨a1, b1⟩ := fix e1 h1
    obtain ⟨a2, b2⟩ := fix e2 h2
    exact k.sep j l s1 t1 a a1 a2 hjl b1 b2
/-- behind the block: the slot has its old value again -/
theorem Ok.back {i : Nat} {x : Option V} {s : Sv} (k : Ok K F env (σ.set i x) G H) (hs : SlR K F G H i s σ[i]?) (hn : ∀ a, ¬ Owns s (σ[i]?) a) : Ok K F (env.set i s) σ G H where
  sub := k.sub
  g0 := k.g0
  keep := k.keep
  new := k.new
  wH := k.wH
  wf := k.wf
  len := by have := k.len; simpa using this
  slot := fun j t e => by
    by_cases z : j = i
    · subst z
      have hj : j < env.length := by have := (List.getElem?_eq_some_iff.mp e).1; simpa using this
      rw [List.getElem?_set_self hj] at e; cases e; exact hs
    · rw [List.getElem?_set_ne (Ne.symm z)] at e
      have := k.slot j t e
      rw [List.getElem?_set_ne (Ne.symm z)] at this; exact this
  sep := fun j l s1 t1 a e1 e2 hjl h1 h2 => by
    have fix : ∀ {j : Nat} {s1 : Sv}, (env.set i s)[j]? = some s1 → Owns s1 (σ[j]?) a → env[j]? = some s1 ∧ Owns s1 ((σ.set i x)[j]?) a := fun {j s1} e h => by
      by_cases z : j = i
      · subst z
        have hj : j < env.length := by have := (List.getElem?_eq_some_iff.mp e).1; simpa using this
        rw [List.getElem?_set_self hj] at e; cases e; exact absurd h (hn a)
      · rw [List.getElem?_set_ne (Ne.symm z)] at e; rw [List.getElem?_set_ne (Ne.symm z)]; exact ⟨e, h⟩
    obtain ⟨a1, b1⟩ := fix e1 h1
    obtain ⟨a2, b2⟩ := fix e2 h2
    exact k.sep j l s1 t1 a a1 a2 hjl b1 b2
/-- item k of J stands for ds[k], whenever one stands behind G1, in frames that keep what F keeps -/
def ItAt (K : PySem.W.Frag) (F : FrD) (G1 : Hp) (J : It) (ds : List D) : Prop :=
  ∀ F', (∀ a o, F.H a = some o → F'.H a = some o) → (∀ a, F'.W a → F.W a) → ∀ env σ G H i, Ok K F' env σ G H → Gle G1 G → (i < ds.length → J.go i H) ∧ (ds.length ≤ i → J.stop i H) ∧ ∀ x H', J.yld i H x H' → ∀ d, ds[i]? = some d → ∃ G', Gle G G' ∧ Ok K F' env σ G' H' ∧ Rep K G' d x
theorem ItOk.at {G1 : Hp} {J : It} (h : ItOk K G1 J ds) : ItAt K F G1 J ds := fun F' _ _ env σ G H i k g => h F' env σ G H i k g
/-- the strongest readings that the value layer gives -/
def lowT (K : PySem.W.Frag) (tt : VTT) : TT := fun σ H Q => ∃ F env G Q', Ok K F env σ G H ∧ tt env Q' (fun _ _ _ => False) ∧ ∀ b env' G' H', Ok K F env' σ G' H' → Gle G G' → Q' b env' → Q b H'
def lowE (K : PySem.W.Frag) (te : VTE) : TE := fun σ H Q => ∃ F env G Q', Ok K F env σ G H ∧ te env Q' (fun _ _ _ => False) ∧ ∀ d env' v G' H', Ok K F env' σ G' H' → Gle G G' → Rep K G' d v → Q' d env' → Q v H'
theorem lowT_of {ifs : List Expr} {tt : VTT} (h : VTs X WF ifs tt) : PTs X ifs (lowT X.K tt) := by
  obtain ⟨tp, p2, s2⟩ := h.ex
  exact ⟨fun pins s σ H Q I ⟨F, env, G, Q', k, h, q⟩ => p2.run pins s σ H Q I (s2 F env σ G H Q' (fun _ _ _ => False) Q k (fun _ _ _ _ _ _ _ h => h.elim) h q)⟩
theorem lowE_of {e : Expr} {te : VTE} (h : VE X WF e te) : PE X e (lowE X.K te) := by
  obtain ⟨tp, p2, s2⟩ := h.ex
  exact ⟨fun pins s σ H Q I ⟨F, env, G, Q', k, h, q⟩ => p2.run pins s σ H Q I (s2 F env σ G H Q' (fun _ _ _ => False) Q k (fun _ _ _ _ _ _ _ h => h.elim) h q)⟩
/-- what is asked of a comprehension over ds, x in slot i -/
def bLc (ds : List D) (i : Nat) (tt : VTT) (te : VTE) : VTO := fun env1 Q _ => ds.length ≤ 16777216 ∧ ∃ s0, env1[i]? = some s0 ∧ ∃ I : Nat → List D → En → Prop, I 0 [] (env1.set i (keepS s0)) ∧
  (∀ n d acc env, ds[n]? = some d → I n acc env → env[i]? = some (keepS s0) → tt (env.set i (.sh d)) (fun b env2 => if b = true then te env2 (fun y env3 => I (n + 1) (acc ++ [y]) (env3.set i (keepS s0))) (fun _ _ _ => False) else I (n + 1) acc (env2.set i (keepS s0))) (fun _ _ _ => False)) ∧
  ∀ acc env, I ds.length acc env → env[i]? = some (keepS s0) → Q (.ow (.lst acc)) env
theorem lc_body {i : Nat} {tt : VTT} {te : VTE} {J : It} {Q : Sv → En → Prop} {E : XQ} {Qh : VK} {env1 : En} {G1 H1 : Hp} (k1 : Ok K F env1 σ G1 H1) (J1 : ItAt K F G1 J ds) (hq : bLc ds i tt te env1 Q E)
    (q : ∀ r env' v G' H', Ok K F env' σ G' H' → Gle G1 G' → RO K F env' σ G' H' r v → Q r env' → Qh v H') :
    ∀ D, H1 D = none → ∃ W : Nat → Nat → Hp → Prop, (∃ m, W 0 m (upd H1 D (.lst []))) ∧ ∀ n m H, W n m H →
      (J.stop n H ∧ Qh (.ref D) H) ∨ (J.go n H ∧ ∃ Nx : Hp → Prop, (∀ H', Nx H' → ∃ m', m' < m ∧ W (n + 1) m' H') ∧ ∀ x H', J.yld n H x H' → gName i x (wipe σ [i]) H' fun σ2 H2 => wipe σ2 [i] = wipe σ [i] ∧ lowT K tt σ2 H2 fun b H3 =>
        if b = true then lowE K te σ2 H3 fun y H4 => ∃ acc, H4 D = some (.lst acc) ∧ acc.length < sizeLine ∧ Nx (upd H4 D (.lst (acc ++ [y]))) else Nx H3) := by
    obtain ⟨hz, s0, e0, I, h0, hst, hd⟩ := hq
    intro p hp
    have hpF : F.H p = none := k1.fnone hp
    have hpG : G1 p = none := k1.gnone hp
    have hpW : ¬ F.W p := fun w => k1.wH p w hp
    have kA : Ok K F (env1.set i (keepS s0)) σ G1 (upd H1 p (.lst [])) := (k1.wipe1 e0).alloc hp
    have hslot : SlR K F G1 H1 i (keepS s0) σ[i]? := (k1.wipe1 e0).slot i _ (List.getElem?_set_self (List.getElem?_eq_some_iff.mp e0).1)
    have hkeepN : ∀ a, ¬ Owns (keepS s0) (σ[i]?) a := fun a h => by cases s0 <;> cases h
    have hil : i < env1.length := (List.getElem?_eq_some_iff.mp e0).1
    refine ⟨fun n m H => m = ds.length - n ∧ n ≤ ds.length ∧ ∃ env G acc xs, Ok K (F.reG G1) env σ G H ∧ H p = some (.lst xs) ∧ Reps K G acc xs ∧ xs.length ≤ n ∧ G p = none ∧ (∀ (i : Nat) (s : Sv), env[i]? = some s → ¬ Owns s (σ[i]?) p) ∧ env[i]? = some (keepS s0) ∧ I n acc env,
      ⟨ds.length, by simp, Nat.zero_le _, _, G1, [], [], kA.reG, upd_same, .nil, Nat.le_refl _, hpG, fun j s e => (k1.wipe1 e0).notOwned hp j s e, List.getElem?_set_self hil, h0⟩, ?_⟩
    rintro n m H2 ⟨rfl, hn, env2, G2, acc, xs, k2, hpx, rs, hlx, hpG2, hno, he2, hI⟩
    have kF := k1.unG k2
    obtain ⟨j1, j2, j3⟩ := J1 F (fun _ _ h => h) (fun _ h => h) env2 σ G2 H2 n kF k2.g0
    by_cases hlt : n < ds.length
    · refine .inr ⟨j1 hlt, fun H' => ∃ env G acc xs, Ok K (F.reG G1) env σ G H' ∧ H' p = some (.lst xs) ∧ Reps K G acc xs ∧ xs.length ≤ n + 1 ∧ G p = none ∧ (∀ (i : Nat) (s : Sv), env[i]? = some s → ¬ Owns s (σ[i]?) p) ∧ env[i]? = some (keepS s0) ∧ I (n + 1) acc env,
        fun H' h => ⟨ds.length - (n + 1), by omega, rfl, hlt, h⟩, fun y H3 hy => ?_⟩
      have kA2 : Ok K ((F.reG G1).add p (.lst xs)) env2 σ G2 H2 := k2.add hpx hpF hpG2 hno
      obtain ⟨G3, g3, k3, r3⟩ := (J1 ((F.reG G1).add p (.lst xs)) (fun a o e => by
        have hne : a ≠ p := fun z => by subst z; rw [hpF] at e; cases e
        show upd F.H p _ a = some o
        rw [upd_ne hne]; exact e) (fun _ h => h) env2 σ G2 H2 n kA2 k2.g0).2.2 y H3 hy _ (List.getElem?_eq_getElem hlt)
      have kp := k3.put (i := i) (s := .sh _) ⟨y, rfl, r3⟩ (fun a ha => by cases ha)
      have eσ : (wipe σ [i]).set i (some y) = σ.set i (some y) := by simp [wipe, List.set_set]
      have turn := hst n _ acc env2 (List.getElem?_eq_getElem hlt) hI he2
      have hG1p : (F.reG G1).G p = none := hpG
      have hkeep : ∀ {env : En} {G : Hp} {H : Hp}, Ok K ((F.reG G1).add p (.lst xs)) env (σ.set i (some y)) G H → Ok K (F.reG G1) (env.set i (keepS s0)) σ G H ∧ H p = some (.lst xs) ∧ G p = none ∧ (∀ (j : Nat) (s : Sv), (env.set i (keepS s0))[j]? = some s → ¬ Owns s (σ[j]?) p) ∧ (env.set i (keepS s0))[i]? = some (keepS s0) := fun {env G H} k => by
        obtain ⟨ku, h1, _, h2⟩ := k.unadd (F := F.reG G1) hpF hpW
        have hl : env.length = env1.length := by
          have e1 := k.len
          have e2 := k1.len
          simp only [List.length_set] at e1; omega
        have hs : SlR K (F.reG G1) G H i (keepS s0) σ[i]? := by
          cases s0 with
          | sh d => obtain ⟨v, e, r⟩ := hslot; exact ⟨v, e, r.gle k.g0⟩
          | un => trivial
          | ow d => trivial
          | io d => trivial
        have kb := ku.back hs hkeepN
        refine ⟨kb, h1, k.addG hG1p, fun j s e ho => ?_, List.getElem?_set_self (by omega)⟩
        by_cases z : j = i
        · subst z; rw [List.getElem?_set_self (by omega)] at e; cases e; exact hkeepN p ho
        · rw [List.getElem?_set_ne (Ne.symm z)] at e
          exact h2 j s e (by rw [List.getElem?_set_ne (Ne.symm z)]; exact ho)
      show wipe ((wipe σ [i]).set i (some y)) [i] = wipe σ [i] ∧ _
      rw [eσ]
      refine ⟨by simp [wipe, List.set_set], _, _, G3, _, kp, turn, fun b env' G' H' k' g' hb => ?_⟩
      cases b with
      | false =>
        rw [if_neg Bool.false_ne_true] at hb ⊢
        obtain ⟨c1, c2, c3, c4, c5⟩ := hkeep k'
        exact ⟨_, G', acc, xs, c1, c2, rs.gle ((g3.trans g')), by omega, c3, c4, c5, hb⟩
      | true =>
        rw [if_pos rfl] at hb ⊢
        refine ⟨_, _, G', _, k', hb, fun d env'' v G'' H'' k'' g'' r'' hd'' => ?_⟩
        obtain ⟨c1, c2, c3, c4, c5⟩ := hkeep k''
        have hsz := sizeLine_eq
        refine ⟨xs, c2, by omega, _, G'', acc ++ [d], xs ++ [v], c1.touch (by rw [c2]; simp) hpF c3 c4, upd_same, (rs.gle ((g3.trans g').trans g'')).app (.one r''), by simp; omega, c3, c4, c5, hd''⟩
    · have e : n = ds.length := by omega
      subst e
      refine .inl ⟨j2 (Nat.le_refl _), ?_⟩
      refine q (.ow (.lst acc)) env2 (.ref p) G2 H2 kF k2.g0 ⟨⟨p, xs, rfl, hpx, hpG2, ?_, rs⟩, fun a ha => ?_⟩ (hd acc env2 hI he2)
      · have := fits_ok (n := ds.length) (by simp [fits]; omega)
        omega
      · cases ha; exact ⟨hpF, hno⟩
/-- a comprehension's reading serves as a value and as what a name is set to on one line -/
structure VLc (X : Cx) (W : WX) (elt tg iter : Expr) (ifs : List Expr) (scope : Scope) (t : VTO) : Prop where
  ex : ∃ tl, (∀ pos, PE X (.ListComp elt [⟨tg, iter, ifs, 0⟩] scope pos) tl) ∧ (∀ (i : Nat) (y : Str) (py pos spos : Pos), X.N[i]? = some y → X.env.scope.names.lookup y = some .local →
    swapsWith (.ListComp elt [⟨tg, iter, ifs, 0⟩] scope pos) (some (.Name y py)) spos.line X.env = pure true → PS X (.Assign [.Name y py] (.ListComp elt [⟨tg, iter, ifs, 0⟩] scope pos) spos) (tAsg tl (gName i))) ∧ SndO X.K W tl t
/-- the blocks of a comprehension -/
structure VBlk (X : Cx) (k : Nat) (tg elt : Expr) (ifs : List Expr) (scope : Scope) (i : Nat) (tt : VTT) (te : VTE) : Prop where
  hg : ∀ (s : Shared) (H : Hp) (C : Addr) (cl : List (Str × Addr)) (fp : List Addr), PG (X.blk s H scope (compEnvC scope cl C X.env) fp) tg (gName i)
  ht : ∀ (s : Shared) (H : Hp) (C : Addr) (cl : List (Str × Addr)) (fp : List Addr), VC (X.blk s H scope (compEnvC scope cl C X.env) fp) WF k → VTs (X.blk s H scope (compEnvC scope cl C X.env) fp) WF ifs tt
  he : ∀ (s : Shared) (H : Hp) (C : Addr) (cl : List (Str × Addr)) (fp : List Addr), VC (X.blk s H scope (compEnvC scope cl C X.env) fp) WF k → VE (X.blk s H scope (compEnvC scope cl C X.env) fp) WF elt te
/-- [elt for x in it if test]: x in slot i -/
def oLc (ti : VTI) (i : Nat) (tt : VTT) (te : VTE) : VTO := fun env Q E => ti env (fun ds env1 => bLc ds i tt te env1 Q E) E
theorem vlc_it {elt tg iter : Expr} {ifs : List Expr} {scope : Scope} {x : Str} {i : Nat} {ti : VTI} {tt : VTT} {te : VTE} (cx : VC X W k) (hi : VI X W tg iter ti) (ok : BlkOk X.N X.env.scope scope [(x, i)]) (b : VBlk X k tg elt ifs scope i tt te)
    (hs : ∀ x, foldedSetIterable iter X.env x = pure x := by intro _; rfl) : VLc X W elt tg iter ifs scope (oLc ti i tt te) := by
  obtain ⟨wi, p1, s1⟩ := hi.ex
  refine ⟨tLc wi (gName i) (lowT X.K tt) (lowE X.K te) [i], fun pos => pe_lc (own := [(x, i)]) cx.calm cx.nd p1 ok b.hg (fun s H C cl fp => lowT_of (b.ht s H C cl fp (cx.blk s H scope _ fp))) (fun s H C cl fp => lowE_of (b.he s H C cl fp (cx.blk s H scope _ fp))) hs,
    fun j y py pos spos hj hy hsw => ps_setLc (own := [(x, i)]) cx.calm cx.nd hj hy hsw p1 ok b.hg (fun s H C cl fp => lowT_of (b.ht s H C cl fp (cx.blk s H scope _ fp))) (fun s H C cl fp => lowE_of (b.he s H C cl fp (cx.blk s H scope _ fp))) hs, ?_⟩
  intro F env σ G H Q E Qh k xo h q
  refine s1 F env σ G H _ E _ k xo h fun J ds env1 G1 H1 k1 g1 J1 hb => ?_
  exact lc_body k1 J1.at hb fun r env' v G' H' k' g' ro hq => q r env' v G' H' k' (g1.trans g') ro hq
theorem VLc.vo {elt tg iter : Expr} {ifs : List Expr} {scope : Scope} {pos : Pos} {t : VTO} (h : VLc X W elt tg iter ifs scope t) : VO X W (.ListComp elt [⟨tg, iter, ifs, 0⟩] scope pos) t := by
  obtain ⟨tl, p, _, s⟩ := h.ex
  exact ⟨tl, p pos, s⟩
theorem VLc.sh {elt tg iter : Expr} {ifs : List Expr} {scope : Scope} {t : VTO} (h : VLc X W elt tg iter ifs scope t) : VLc X W elt tg iter ifs scope (eO (oE t)) := by
  obtain ⟨tl, p, p2, s⟩ := h.ex
  refine ⟨tl, p, p2, fun F env σ G H Q E Qh k xo ht q => s F env σ G H _ E Qh k xo ht fun r env' v G' H' k' g ro ⟨hi, hq⟩ => ?_⟩
  obtain ⟨G2, g2, k2, rp⟩ := ro.shared k' hi
  exact q (.sh r.d) env' v G2 H' k2 (g.trans g2) rp hq
theorem VLc.set {elt tg iter : Expr} {ifs : List Expr} {scope : Scope} {pos spos py : Pos} {t : VTO} {j : Nat} {y : Str} (h : VLc X W elt tg iter ifs scope t) (hj : X.N[j]? = some y) (hy : X.env.scope.names.lookup y = some .local)
    (hsw : swapsWith (.ListComp elt [⟨tg, iter, ifs, 0⟩] scope pos) (some (.Name y py)) spos.line X.env = pure true := by rfl) : VS X W (.Assign [.Name y py] (.ListComp elt [⟨tg, iter, ifs, 0⟩] scope pos) spos) (sSet j t) := by
  obtain ⟨tl, _, p, s⟩ := h.ex
  refine ⟨_, p j y py pos spos hj hy hsw, fun F env σ G H D DD k c h => ?_⟩
  exact s F env σ G H _ D.ex _ k c.ex h fun r env' v G' H' k' g ro hq => c.nx _ _ G' H' (k'.put ro.slot ro.sep) hq
end
end VL
set_option linter.all false
set_option maxRecDepth 100000
set_option maxHeartbeats 4000000
namespace VL
open PySem PySem.Spec PyProof.Rows L2

section
variable {X : Cx} {W : WX} {K : PySem.W.Frag} {F : FrD} {env env' : En} {σ σ' : L2.St} {G H G' H' : Hp} {d : D} {v : V} {p a : Addr} {vs : List V} {ds : List D} {k : Nat} {o o' : HO}
/-! ### a locked dict -/
def FrD.lock (F : FrD) (G : Hp) (a : Addr) (o : HO) : FrD := { F with H := upd F.H a o, G := G }
theorem Ok.lock {od : Obj} {ys : List (Key × V)} (k : Ok K F env σ G H) (hG : G a = some (.dK ys)) : Ok K (F.lock G a (.frz od (.dK ys))) env σ G (upd H a (.frz od (.dK ys))) where
  sub := fun b u e => by
    by_cases z : b = a
    · subst z; rw [hG] at e; cases e; exact .inr ⟨⟨ys, rfl⟩, od, upd_same⟩
    · rw [upd_ne z]; exact k.sub b u e
  g0 := Gle.refl G
  keep := fun b u e w => by
    by_cases z : b = a
    · subst z; have e : upd F.H b _ b = some u := e; rw [upd_same] at e; cases e; exact upd_same
    · have e : upd F.H a _ b = some u := e; rw [upd_ne z] at e; rw [upd_ne z]; exact k.keep b u e w
  new := fun b h1 h2 => h2
  wH := fun b w => by
    by_cases z : b = a
    · subst z; rw [upd_same]; simp
    · rw [upd_ne z]; exact k.wH b w
  wf := fun b w => ⟨by
    show upd F.H a _ b ≠ none
    by_cases z : b = a
    · subst z; rw [upd_same]; simp
    · rw [upd_ne z]; exact (k.wf b w).1, k.new b (k.wf b w).1 (k.wf b w).2⟩
  len := k.len
  slot := fun i s e => by
    have h := k.slot i s e
    have hne : ∀ b, Owns s (σ[i]?) b → b ≠ a := fun b hb z => by
      have := (h.there hb).2; subst z; rw [hG] at this; cases this
    have h2 : SlR K F G (upd H a (.frz od (.dK ys))) i s σ[i]? := h.heap fun b hb => by rw [upd_ne (hne b hb)]
    cases s with
    | un => trivial
    | sh d => exact h2
    | ow d =>
      obtain ⟨v, e1, h3, h4⟩ := h2
      refine ⟨v, e1, h3, fun b hb => ?_⟩
      show upd F.H a _ b = none
      rw [upd_ne (hne b (by rw [e1]; exact hb))]; exact h4 b hb
    | io d => exact h2
  sep := k.sep
theorem Ok.unlock {od : Obj} {ys : List (Key × V)} {env1 : En} {σ1 : L2.St} {G1 H1 : Hp} (k1 : Ok K F env1 σ1 G1 H1) (hG : G1 a = some (.dK ys)) (hH : H1 a = some (.dK ys)) (k : Ok K (F.lock G1 a (.frz od (.dK ys))) env σ G H) :
    H a = some (.frz od (.dK ys)) ∧ Ok K F env σ G (upd H a (.dK ys)) := by
  have hw : ¬ F.W a := k1.notW (by rw [hG]; simp)
  have hHa : H a = some (.frz od (.dK ys)) := k.keep a _ upd_same hw
  have hGa : G a = some (.dK ys) := k.g0 a _ hG
  refine ⟨hHa, { sub := fun b u e => ?_, g0 := k1.g0.trans k.g0, keep := fun b u e w => ?_, new := fun b h1 h2 => ?_, wH := fun b w => ?_, wf := k1.wf, len := k.len, slot := fun i s e => ?_, sep := k.sep }⟩
  · by_cases z : b = a
    · subst z; rw [hGa] at e; cases e; exact .inl upd_same
    · rw [upd_ne z]; exact k.sub b u e
  · by_cases z : b = a
    · subst z
      have := k1.keep b u e w
      rw [hH] at this; cases this; exact upd_same
    · rw [upd_ne z]; refine k.keep b u ?_ w; show upd F.H a _ b = some u; rw [upd_ne z]; exact e
  · refine k.new b ?_ (k1.new b h1 h2)
    show upd F.H a _ b ≠ none
    by_cases z : b = a
    · subst z; rw [upd_same]; simp
    · rw [upd_ne z]; exact h1
  · by_cases z : b = a
    · subst z; rw [upd_same]; simp
    · rw [upd_ne z]; exact k.wH b w
  · have h := k.slot i s e
    have hne : ∀ b, Owns s (σ[i]?) b → b ≠ a := fun b hb z => by
      have := (h.there hb).2; subst z; rw [hGa] at this; cases this
    have h2 : SlR K (F.lock G1 a (.frz od (.dK ys))) G (upd H a (.dK ys)) i s σ[i]? := h.heap fun b hb => by rw [upd_ne (hne b hb)]
    cases s with
    | un => trivial
    | sh d => exact h2
    | ow d =>
      obtain ⟨v, e1, h3, h4⟩ := h2
      refine ⟨v, e1, h3, fun b hb => ?_⟩
      have z : upd F.H a _ b = none := h4 b hb
      rw [upd_ne (hne b (by rw [e1]; exact hb))] at z; exact z
    | io d => exact h2
def lk (t : TS) : TS := fun D σ H => t D σ H ∨ tLock t D σ H
theorem ps_lk {st : Stmt} {t : TS} (h : PS X st t) : PS X st (lk t) := ⟨fun pins s σ H D I hw => hw.elim (h.run pins s σ H D I) ((ps_lock h).run pins s σ H D I)⟩
def lkE (t : TE) : TE := fun σ H Q => t σ H Q ∨ tLockE t σ H Q
theorem pe_lk {e : Expr} {t : TE} (h : PE X e t) : PE X e (lkE t) := ⟨fun pins s σ H Q I hw => hw.elim (h.run pins s σ H Q I) ((pe_lock h).run pins s σ H Q I)⟩
/-- a key as a value -/
def keyV : Key → D
  | .inl i => .int i
  | .inr z => .str z
/-- all keys fit -/
def keysFit (kvs : List (Key × D)) : Bool := kvs.all fun p => match p.1 with | .inr z => fits z.length | .inl _ => true
theorem keyV_rep {key : Key} (h : (match key with | .inr z => fits z.length | .inl _ => true) = true) : Rep K G (keyV key) (kV key) := by
  cases key with
  | inl i => exact rep_int
  | inr z => exact rep_str (fits_ok h)
theorem Repk.key {kvs : List (Key × D)} {ys : List (Key × V)} : ∀ {i : Nat} {key : Key} {d : D}, Repk K G kvs ys → kvs[i]? = some (key, d) → ∃ y, ys[i]? = some (key, y) ∧ Rep K G d y := by
  induction kvs generalizing ys with
  | nil => intro i key d h e; simp at e
  | cons c cs ih =>
    intro i key d h e
    obtain ⟨k', d'⟩ := c
    simp only [Repk] at h
    obtain ⟨y, r, rfl, h1, h2⟩ := h
    cases i with
    | zero => simp at e; obtain ⟨rfl, rfl⟩ := e; exact ⟨y, rfl, h1⟩
    | succ i => simp at e; obtain ⟨z, q, hr⟩ := ih h2 e; exact ⟨z, by simpa using q, hr⟩
/-- a slot's dict, shared from now on -/
def dctAt (env : En) (i : Nat) : Option (List (Key × D)) := match env[i]? with
  | some (.sh (.dct kvs)) => some kvs
  | some (.ow (.dct kvs)) => some kvs
  | _ => none
theorem Ok.dctAt {i : Nat} {kvs : List (Key × D)} (k : Ok K F env σ G H) (h : dctAt env i = some kvs) : ∃ G' a ys, Gle G G' ∧ Ok K F (env.set i (.sh (.dct kvs))) σ G' H ∧ σ[i]? = some (some (.ref a)) ∧ G' a = some (.dK ys) ∧ Repk K G' kvs ys ∧ ys.length ≤ sizeLine := by
  unfold VL.dctAt at h
  split at h
  · rename_i kvs' e
    cases h
    obtain ⟨v, e1, r⟩ := k.slot i _ e
    have r' := r
    simp only [Rep] at r'
    obtain ⟨a, ys, rfl, h1, h2, h3⟩ := r'
    exact ⟨G, a, ys, Gle.refl G, k.reword e ⟨_, e1, r⟩ (fun a h => by cases h), e1, h1, h3, h2⟩
  · rename_i kvs' e
    cases h
    obtain ⟨G', v, g, e1, k', r⟩ := k.release e rfl
    simp only [Rep] at r
    obtain ⟨a, ys, rfl, h1, h2, h3⟩ := r
    exact ⟨G', a, ys, g, k', e1, h1, h3, h2⟩
  · cases h
/-- for x in d.keys(): d in slot i, x in slot j; nothing is raised within -/
def sForK (i j : Nat) (tb : VTS) : VTS := fun D env => ∃ kvs, dctAt env i = some kvs ∧ keysFit kvs = true ∧ ∃ I : Nat → En → Prop, I 0 (env.set i (.sh (.dct kvs))) ∧
  (∀ n key d env, kvs[n]? = some (key, d) → I n env → tb { nx := I (n + 1), ct := I (n + 1), bk := D.nx, rt := D.rt } (env.set j (.sh (keyV key)))) ∧ ∀ env, I kvs.length env → D.nx env
theorem itk_ok {od : Obj} {kvs : List (Key × D)} {ys : List (Key × V)} (rk : Repk K G kvs ys) (hf : keysFit kvs = true) (hG : G a = some (.dK ys)) : ∀ F env σ G' H n, Ok K F env σ G' H → Gle G G' → H a = some (.frz od (.dK ys)) →
    (n < kvs.length → (Itk a od ys).go n H) ∧ (kvs.length ≤ n → (Itk a od ys).stop n H) ∧ ∀ x H', (Itk a od ys).yld n H x H' → ∀ key d, kvs[n]? = some (key, d) → H' = H ∧ Rep K G' (keyV key) x := by
  intro F env σ G' H n k g hH
  have hl := rk.len
  refine ⟨fun h => ⟨hH, by omega⟩, fun h => ⟨hH, by omega⟩, fun x H' hy key d hd => ?_⟩
  obtain ⟨e, key', v, hv, rfl⟩ := hy
  obtain ⟨y, hy, _⟩ := rk.key hd
  rw [hy] at hv; cases hv
  refine ⟨e, keyV_rep ?_⟩
  have := List.all_eq_true.mp hf _ (List.mem_of_getElem? hd)
  exact this
theorem vs_forK {i j : Nat} {x y : Str} {body : List Stmt} {pos p q apos cpos : Pos} {tb : VTS} (cx : VC X W k) (pv : PE X (.Name y q) (tVar i)) (hi : X.N[j]? = some x) (hx : Loc X.env.scope x) (hb : VSs X WF body tb) (hbX : VSs X WF body tb → VSs X WF body tb := id)
    (hf : X.fn x = true ∨ X.env.scope.names.lookup x = some .local := by first | exact .inl rfl | exact .inr rfl | assumption)
    (hbase : attributeBase (.Name y q) "keys" X.env (eval (.Name y q) X.env) = eval (.Name y q) X.env := by rfl) (hline : (apos.endLine == cpos.line) = true := by rfl)
    (hs : ∀ x, foldedSetIterable (.Call (.Attribute (.Name y q) "keys" apos) [] [] cpos) X.env x = pure x := by intro _; rfl) : VS X W (.For (.Name x p) (.Call (.Attribute (.Name y q) "keys" apos) [] [] cpos) body [] pos) (sForK i j tb) := by
  obtain ⟨pb, p2, s2⟩ := hb.ex
  refine ⟨_, ps_lk (ps_for cx.po cx.calm (pi_keysM pv hbase hline) (pg_name cx.nd hi hx hf) p2 hs), fun F env σ G H D DD k c h => ?_⟩
  obtain ⟨kvs, h1, hfit, I, h0, hst, hd⟩ := h
  obtain ⟨G1, a, ys, g1, k1, e1, hG, rk, hz⟩ := k.dctAt h1
  -- the loop, while the dict is locked
  have loop : ∀ (F1 : FrD) (od : Obj) (env1 : En) (H1 : Hp) (DD : Ends), Ok X.K F1 env1 σ G1 H1 → Gle G1 F1.G → H1 a = some (.frz od (.dK ys)) → (∀ env σ G H, Ok X.K F1 env σ G H → H a = some (.frz od (.dK ys))) → I 0 env1 →
      (∀ env σ G H, Ok X.K F1 env σ G H → D.nx env → DD.nx σ H) → (∀ r env σ G H v, Ok X.K F1 env σ G H → RO X.K F1 env σ G H r v → D.rt r env → DD.rt v H) →
      tFor (iKeysM (tVar i)) (gName j) pb DD σ H1 := fun F1 od env1 H1 DD k1 gF hHa hfrz h0 hnx hrt => by
    refine ⟨.ref a, e1, a, od, ys, rfl, hHa, fun n m σ H => m = kvs.length - n ∧ n ≤ kvs.length ∧ ∃ env G, Ok X.K F1 env σ G H ∧ I n env, ⟨kvs.length, by simp, Nat.zero_le _, env1, G1, k1, h0⟩, ?_⟩
    rintro n m σ H ⟨rfl, hn, env, G, k, hI⟩
    obtain ⟨j1, j2, j3⟩ := itk_ok rk hfit hG F1 env σ G H n k (gF.trans k.g0) (hfrz env σ G H k)
    by_cases hlt : n < kvs.length
    · refine .inr ⟨j1 hlt, fun σ' H' => ∃ env G, Ok X.K F1 env σ' G H' ∧ I (n + 1) env, fun σ' H' ⟨env, G, k, hI⟩ => ⟨kvs.length - (n + 1), by omega, rfl, hlt, env, G, k, hI⟩, fun y H' hy => ?_⟩
      obtain ⟨rfl, r⟩ := j3 y H' hy _ _ (List.getElem?_eq_getElem hlt)
      have kp := k.put (i := j) (s := .sh _) ⟨y, rfl, r⟩ (fun a ha => by cases ha)
      exact s2 F1 _ _ G _ { nx := I (n + 1), ct := I (n + 1), bk := D.nx, rt := D.rt } _ kp
        ⟨fun env σ G H k h => ⟨env, G, k, h⟩, hrt, hnx, fun env σ G H k h => ⟨env, G, k, h⟩, fun _ _ _ _ _ _ _ h => h.elim⟩ (hst n _ _ env (List.getElem?_eq_getElem hlt) hI)
    · have e : n = kvs.length := by omega
      subst e
      exact .inl ⟨j2 (Nat.le_refl _), hnx _ _ _ _ k (hd env hI)⟩
  rcases k1.sub a _ hG with hH | ⟨_, od, hH⟩
  · refine .inr ⟨a, .dK ys, hH, trivial, fun od => ?_⟩
    have kL := k1.lock (od := od) hG
    refine loop _ od _ _ _ kL (Gle.refl _) upd_same (fun env σ G H k => (k1.unlock hG hH k).1) h0 (fun env σ G H k h => ?_) fun r env σ G H v k ro h => ?_
    · obtain ⟨e2, k2⟩ := k1.unlock hG hH k
      exact ⟨e2, c.nx env σ G _ k2 h⟩
    · obtain ⟨e2, k2⟩ := k1.unlock hG hH k
      refine ⟨e2, c.rt r env σ G _ v k2 ?_ h⟩
      cases r with
      | un => cases ro
      | io d => cases ro
      | sh d => exact ro
      | ow d =>
        obtain ⟨o1, o2⟩ := ro
        have hne : ∀ b, OwA d v b → b ≠ a := fun b hb z => by
          have := (o1.there hb).2; subst z
          rw [k.g0 _ _ hG] at this; cases this
        refine ⟨o1.heap fun b hb => by rw [upd_ne (hne b hb)], fun b hb => ⟨?_, (o2 b hb).2⟩⟩
        have z : upd F.H a _ b = none := (o2 b hb).1
        rw [upd_ne (hne b hb)] at z; exact z
  · -- it is locked already
    refine .inl ?_
    have kA : Ok X.K (F.lock G1 a (.frz od (.dK ys))) (env.set i (.sh (.dct kvs))) σ G1 (upd H a (.frz od (.dK ys))) := k1.lock hG
    have eH : upd H a (.frz od (.dK ys)) = H := by
      funext b; by_cases z : b = a
      · subst z; rw [upd_same, hH]
      · rw [upd_ne z]
    rw [eH] at kA
    have back : ∀ {env : En} {σ : L2.St} {G H' : Hp}, Ok X.K (F.lock G1 a (.frz od (.dK ys))) env σ G H' → Ok X.K F env σ G H' ∧ H' a = some (.frz od (.dK ys)) := fun {env σ G H'} k => by
      have hw : ¬ F.W a := k1.notW (by rw [hG]; simp)
      have hHa : H' a = some (.frz od (.dK ys)) := k.keep a _ upd_same hw
      refine ⟨{ sub := k.sub, g0 := k1.g0.trans k.g0, keep := fun b u e w => ?_, new := fun b h1 h2 => ?_, wH := k.wH, wf := k1.wf, len := k.len, slot := fun i s e => ?_, sep := k.sep }, hHa⟩
      · by_cases z : b = a
        · subst z
          have := k1.keep b u e w
          rw [hH] at this; cases this; exact hHa
        · refine k.keep b u ?_ w; show upd F.H a _ b = some u; rw [upd_ne z]; exact e
      · refine k.new b ?_ (k1.new b h1 h2)
        show upd F.H a _ b ≠ none
        by_cases z : b = a
        · subst z; rw [upd_same]; simp
        · rw [upd_ne z]; exact h1
      · have h := k.slot i s e
        cases s with
        | un => trivial
        | sh d => exact h
        | ow d =>
          obtain ⟨v, e1, h3, h4⟩ := h
          refine ⟨v, e1, h3, fun b hb => ?_⟩
          have z : upd F.H a _ b = none := h4 b hb
          by_cases y : b = a
          · subst y; rw [upd_same] at z; cases z
          · rw [upd_ne y] at z; exact z
        | io d => exact h
    refine loop _ od _ _ _ kA (Gle.refl _) hH (fun env σ G H k => (back k).2) h0 (fun env σ G H k h => c.nx env σ G H (back k).1 h) fun r env σ G H v k ro h => c.rt r env σ G H v (back k).1 ?_ h
    cases r with
    | un => cases ro
    | io d => cases ro
    | sh d => exact ro
    | ow d =>
      obtain ⟨o1, o2⟩ := ro
      refine ⟨o1, fun b hb => ⟨?_, (o2 b hb).2⟩⟩
      have z : upd F.H a _ b = none := (o2 b hb).1
      by_cases y : b = a
      · subst y; rw [upd_same] at z; cases z
      · rw [upd_ne y] at z; exact z
end
end VL
set_option linter.all false
set_option maxRecDepth 100000
set_option maxHeartbeats 4000000
namespace VL
open PySem PySem.Spec PyProof.Rows L2

section
variable {X : Cx} {W : WX} {K : PySem.W.Frag} {F : FrD} {env env' : En} {σ σ' : L2.St} {G H G' H' : Hp} {d : D} {v : V} {p a : Addr} {vs : List V} {ds : List D} {k : Nat} {o o' : HO}
/-! ### a name's own list, dict is changed -/
def own (env : En) (i : Nat) : Option D := match env[i]? with
  | some (.ow d) => some d
  | some (.io d) => some d
  | _ => none
def setS (env : En) (i : Nat) (d : D) : En := env.set i (retag env[i]? d)
theorem own_cases {i : Nat} (h : own env i = some d) : env[i]? = some (.ow d) ∨ env[i]? = some (.io d) := by
  unfold own at h
  split at h
  · rename_i e; cases h; exact .inl e
  · rename_i e; cases h; exact .inr e
  · cases h
theorem own_rd {i : Nat} (h : own env i = some d) : rd env i = some d := by
  unfold rd
  rcases own_cases h with e | e <;> (rw [e]; rfl)
theorem Ok.lstOwn {i : Nat} (k : Ok K F env σ G H) (h : own env i = some (.lst ds)) : ∃ p xs, σ[i]? = some (some (.ref p)) ∧ H p = some (.lst xs) ∧ G p = none ∧ xs.length ≤ sizeLine ∧ Reps K G ds xs ∧
    ∀ es ys, Reps K G es ys → ys.length ≤ sizeLine → Ok K F (setS env i (.lst es)) σ G (upd H p (.lst ys)) := by
  unfold setS
  rcases own_cases h with e | e
  · obtain ⟨v, e1, ⟨p, xs, rfl, h1, h2, h3, h4⟩, h5⟩ := k.slot i _ e
    refine ⟨p, xs, e1, h1, h2, h3, h4, fun es ys r hl => ?_⟩
    rw [e]
    refine k.change e (p := p) (by rw [e1]; rfl) ⟨_, e1, ⟨p, ys, rfl, upd_same, h2, hl, r⟩, fun a ha => h5 a ha⟩ (fun a ha => by rw [e1] at ha ⊢; exact ha)
  · obtain ⟨v, e1, ⟨p, xs, rfl, h1, h2, h3, h4⟩, h5, h6⟩ := k.slot i _ e
    refine ⟨p, xs, e1, h1, h2, h3, h4, fun es ys r hl => ?_⟩
    rw [e]
    refine k.change e (p := p) (by rw [e1]; rfl) ⟨_, e1, ⟨p, ys, rfl, upd_same, h2, hl, r⟩, fun a ha => h5 a ha, h6⟩ (fun a ha => by rw [e1] at ha ⊢; exact ha)
theorem Ok.dctOwn {i : Nat} {kvs : List (Key × D)} (k : Ok K F env σ G H) (h : own env i = some (.dct kvs)) : ∃ p xs, σ[i]? = some (some (.ref p)) ∧ H p = some (.dK xs) ∧ G p = none ∧ xs.length ≤ sizeLine ∧ Repk K G kvs xs ∧
    ∀ es ys, Repk K G es ys → ys.length ≤ sizeLine → Ok K F (setS env i (.dct es)) σ G (upd H p (.dK ys)) := by
  unfold setS
  rcases own_cases h with e | e
  · obtain ⟨v, e1, ⟨p, xs, rfl, h1, h2, h3, h4⟩, h5⟩ := k.slot i _ e
    refine ⟨p, xs, e1, h1, h2, h3, h4, fun es ys r hl => ?_⟩
    rw [e]
    refine k.change e (p := p) (by rw [e1]; rfl) ⟨_, e1, ⟨p, ys, rfl, upd_same, h2, hl, r⟩, fun a ha => h5 a ha⟩ (fun a ha => by rw [e1] at ha ⊢; exact ha)
  · obtain ⟨v, e1, ⟨p, xs, rfl, h1, h2, h3, h4⟩, h5, h6⟩ := k.slot i _ e
    refine ⟨p, xs, e1, h1, h2, h3, h4, fun es ys r hl => ?_⟩
    rw [e]
    refine k.change e (p := p) (by rw [e1]; rfl) ⟨_, e1, ⟨p, ys, rfl, upd_same, h2, hl, r⟩, fun a ha => h5 a ha, h6⟩ (fun a ha => by rw [e1] at ha ⊢; exact ha)
/-- by values: what a method does to the slot's thing, what it gives -/
def MutSnd (K : PySem.W.Frag) (r : V → List V → Hp → VK → Prop) (f : D → List D → Option (D × D)) : Prop :=
  ∀ F env σ G H i d v xs vs res d' (Qh : VK), Ok K F env σ G H → own env i = some d → σ[i]? = some (some v) → Reps K G xs vs → f d xs = some (res, d') →
    (∀ v' G' H', Ok K F (setS env i d') σ G' H' → Gle G G' → Rep K G' res v' → Qh v' H') → r v vs H Qh
def tyD : D → String
  | .lst _ => "list" | .dct _ => "dict" | _ => ""
def oMut (i : Nat) (T : String) (f : D → List D → Option (D × D)) (ta : VTA) : VTE := fun env Q E => (∃ d, own env i = some d ∧ tyD d = T) ∧ ta env (fun bs env1 => ∃ d xs r d', own env1 i = some d ∧ vals bs = some xs ∧ f d xs = some (r, d') ∧ Q r (setS env1 i d')) E
theorem own_ty {i : Nat} {T : String} (k : Ok K F env σ G H) (h : own env i = some d) (ht : tyD d = T) (hT : T = "list" ∨ T = "dict") : ∃ v, σ[i]? = some (some v) ∧ tyV K T v H := by
  subst ht
  cases d <;> simp [tyD] at hT
  · obtain ⟨p, xs, e1, h1, _⟩ := k.lstOwn h
    exact ⟨_, e1, .inl ⟨rfl, xs, .inl (.inl h1)⟩⟩
  · obtain ⟨p, xs, e1, h1, _⟩ := k.dctOwn h
    exact ⟨_, e1, .inr (.inr (.inl ⟨rfl, .inl ⟨xs, h1⟩⟩))⟩
theorem ve_mut {i : Nat} {y name : Str} {q apos cpos : Pos} {e : Expr} {es : List Expr} {T id : String} {r : V → List V → Hp → VK → Prop} {f : D → List D → Option (D × D)} {ta : VTA}
    (pa : PlainAttrs T) (slot : Slot T name id) (hty : typeOf (.builtin id) = pure (.type "method_descriptor")) (hm : MtR X id r) (hf : MutSnd X.K r f) (hT : T = "list" ∨ T = "dict") (pv : PE X (.Name y q) (tVar i)) (ha : VA X W (e :: es) ta)
    (hbase : attributeBase (.Name y q) name X.env (eval (.Name y q) X.env) = eval (.Name y q) X.env := by rfl)
    (hfew : ((backTo cpos (starEach (e :: es) X.env)).all (fun x => !x.1) && (backToKw cpos (keywordEach [] X.env)).all (fun x => x.1.isSome)
      && decide ((e :: es).length + ([] : List Keyword).length + (if ([] : List Keyword).isEmpty then 0 else 1) < 30)) = true := by rfl)
    (hline : (apos.endLine == cpos.line) = true := by rfl) (hs : starEach (e :: es) X.env = (false, eval e X.env) :: starEach es X.env := by rfl) (hplain : (backTo cpos (starEach es X.env)).any (·.1) = false := by rfl) :
    VE X W (.Call (.Attribute (.Name y q) name apos) (e :: es) [] cpos) (oMut i T f ta) := by
  obtain ⟨tp, p1, s1⟩ := ha.ex
  refine ⟨_, pe_bm pa slot hty hm pv p1 hbase hfew hline hs hplain, fun F env σ G H Q E Qh k xo ht q => ?_⟩
  obtain ⟨⟨d, h1, h2⟩, ht⟩ := ht
  obtain ⟨v, e1, hv⟩ := own_ty k h1 h2 hT
  refine ⟨v, e1, hv, s1 F env σ G H _ E _ k xo ht fun bs env1 vs G1 H1 k1 g1 r1 ⟨d1, xs, r, d', h3, h4, h5, hq⟩ => ?_⟩
  exact hf F env1 σ G1 H1 i d1 v xs vs r d' Qh k1 h3 e1 (vals_reps r1 h4) h5 fun v' G' H' k' g' r' => q r _ v' G' H' k' (g1.trans g') r' hq
def oMut0 (i : Nat) (T : String) (f : D → List D → Option (D × D)) : VTE := fun env Q E => ∃ d r d', own env i = some d ∧ tyD d = T ∧ f d [] = some (r, d') ∧ Q r (setS env i d')
theorem ve_mut0 {i : Nat} {y name : Str} {q apos cpos : Pos} {T id : String} {r : V → List V → Hp → VK → Prop} {f : D → List D → Option (D × D)}
    (pa : PlainAttrs T) (slot : Slot T name id) (hty : typeOf (.builtin id) = pure (.type "method_descriptor")) (hm : MtR X id r) (hf : MutSnd X.K r f) (hT : T = "list" ∨ T = "dict") (pv : PE X (.Name y q) (tVar i))
    (hbase : attributeBase (.Name y q) name X.env (eval (.Name y q) X.env) = eval (.Name y q) X.env := by rfl)
    (hline : (apos.endLine == cpos.line) = true := by rfl) :
    VE X W (.Call (.Attribute (.Name y q) name apos) [] [] cpos) (oMut0 i T f) := by
  refine ⟨_, pe_bm0 pa slot hty hm pv hbase hline, fun F env σ G H Q E Qh k xo ht q => ?_⟩
  obtain ⟨d, r, d', h1, h2, h5, hq⟩ := ht
  obtain ⟨v, e1, hv⟩ := own_ty k h1 h2 hT
  exact ⟨v, e1, hv, hf F env σ G H i d v [] [] r d' Qh k h1 e1 .nil h5 fun v' G' H' k' g' r' => q r _ v' G' H' k' g' r' hq⟩
/-! append, extend, pop -/
def fApp : D → List D → Option (D × D)
  | .lst ds, [d] => if fits (ds.length + 1) then some (.non, .lst (ds ++ [d])) else none
  | _, _ => none
theorem mut_append : MutSnd K rAppend fApp := by
  intro F env σ G H i d v xs vs r d' Qh k h1 e1 rs hf q
  unfold fApp at hf
  split at hf
  · rename_i ds d
    split at hf
    · rename_i hfit
      cases hf
      obtain ⟨p, ys, e2, h2, h3, h4, h5, h6⟩ := k.lstOwn h1
      rw [e1] at e2; cases e2
      obtain ⟨y, z, rfl, ry, rz⟩ := by simpa only [Reps] using rs
      cases rz
      have := fits_ok hfit
      have hl := h5.len
      refine ⟨p, ys, y, rfl, rfl, h2, by omega, q .non G _ (h6 _ _ (h5.app (.one ry)) (by simp; omega)) (Gle.refl _) rep_non⟩
    · cases hf
  · cases hf
theorem ve_append {i : Nat} {y : Str} {q apos cpos : Pos} {e : Expr} {ta : VTA} (pv : PE X (.Name y q) (tVar i)) (ha : VA X W [e] ta)
    (hbase : attributeBase (.Name y q) "append" X.env (eval (.Name y q) X.env) = eval (.Name y q) X.env := by rfl)
    (hfew : ((backTo cpos (starEach [e] X.env)).all (fun x => !x.1) && (backToKw cpos (keywordEach [] X.env)).all (fun x => x.1.isSome)
      && decide (([e] : List Expr).length + ([] : List Keyword).length + (if ([] : List Keyword).isEmpty then 0 else 1) < 30)) = true := by rfl)
    (hline : (apos.endLine == cpos.line) = true := by rfl) (hs : starEach [e] X.env = (false, eval e X.env) :: starEach [] X.env := by rfl) :
    VE X W (.Call (.Attribute (.Name y q) "append" apos) [e] [] cpos) (oMut i "list" fApp ta) :=
  ve_mut PySem.F.plainAttrs_list PySem.F.slot_list_append PySem.F.type_list_append mt_append mut_append (.inl rfl) pv ha hbase hfew hline hs
def fPop : D → List D → Option (D × D)
  | .lst ds, [] => (ds[ds.length - 1]?).map fun d => (d, .lst ds.dropLast)
  | _, _ => none
theorem Reps.dropLast {ds : List D} {xs : List V} (h : Reps K G ds xs) : Reps K G ds.dropLast xs.dropLast := by
  rw [List.dropLast_eq_take, List.dropLast_eq_take, h.len]; exact h.take _
theorem mut_pop : MutSnd K rPop fPop := by
  intro F env σ G H i d v xs vs r d' Qh k h1 e1 rs hf q
  unfold fPop at hf
  split at hf
  · rename_i ds
    simp only [Option.map_eq_some_iff] at hf
    obtain ⟨c, hc, e⟩ := hf
    cases e
    obtain ⟨p, ys, e2, h2, h3, h4, h5, h6⟩ := k.lstOwn h1
    rw [e1] at e2; cases e2
    cases (show vs = [] by simpa [Reps] using rs)
    obtain ⟨x, hx, rx⟩ := h5.get hc
    have hl := h5.len
    refine ⟨p, ys, x, rfl, rfl, h2, by rw [hl]; exact hx, q _ G _ (h6 _ _ h5.dropLast (by simp; omega)) (Gle.refl _) rx⟩
  · cases hf
theorem ve_pop {i : Nat} {y : Str} {q apos cpos : Pos} (pv : PE X (.Name y q) (tVar i))
    (hbase : attributeBase (.Name y q) "pop" X.env (eval (.Name y q) X.env) = eval (.Name y q) X.env := by rfl) (hline : (apos.endLine == cpos.line) = true := by rfl) :
    VE X W (.Call (.Attribute (.Name y q) "pop" apos) [] [] cpos) (oMut0 i "list" fPop) :=
  ve_mut0 PySem.F.plainAttrs_list PySem.F.slot_list_pop PySem.F.type_list_pop mt_pop mut_pop (.inl rfl) pv hbase hline
/-- xs.extend(ys): ys a list of the same kind, new or shared -/
def fExt : D → List D → Option (D × D)
  | .lst ds, [.lst es] => if fits (ds.length + es.length) then some (.non, .lst (ds ++ es)) else none
  | _, _ => none
theorem mut_extend : MutSnd K rExtend fExt := by
  intro F env σ G H i d v xs vs r d' Qh k h1 e1 rs hf q
  unfold fExt at hf
  split at hf
  · rename_i ds es
    split at hf
    · rename_i hfit
      cases hf
      obtain ⟨p, ys, e2, h2, h3, h4, h5, h6⟩ := k.lstOwn h1
      rw [e1] at e2; cases e2
      obtain ⟨y, z, rfl, ry, rz⟩ := by simpa only [Reps] using rs
      cases rz
      simp only [Rep] at ry
      obtain ⟨b, zs, rfl, hb, hz, rz⟩ := ry
      have := fits_ok hfit
      have hl := h5.len
      have hl2 := rz.len
      have hbH : H b = some (.lst zs) := by
        rcases k.sub b _ hb with e | ⟨⟨_, e⟩, _⟩
        · exact e
        · cases e
      refine ⟨p, b, ys, zs, rfl, rfl, h2, hbH, by omega, q .non G _ (h6 _ _ (h5.app rz) (by simp; omega)) (Gle.refl _) rep_non⟩
    · cases hf
  · cases hf
theorem ve_extend {i : Nat} {y : Str} {q apos cpos : Pos} {e : Expr} {ta : VTA} (pv : PE X (.Name y q) (tVar i)) (ha : VA X W [e] ta)
    (hbase : attributeBase (.Name y q) "extend" X.env (eval (.Name y q) X.env) = eval (.Name y q) X.env := by rfl)
    (hfew : ((backTo cpos (starEach [e] X.env)).all (fun x => !x.1) && (backToKw cpos (keywordEach [] X.env)).all (fun x => x.1.isSome)
      && decide (([e] : List Expr).length + ([] : List Keyword).length + (if ([] : List Keyword).isEmpty then 0 else 1) < 30)) = true := by rfl)
    (hline : (apos.endLine == cpos.line) = true := by rfl) (hs : starEach [e] X.env = (false, eval e X.env) :: starEach [] X.env := by rfl) :
    VE X W (.Call (.Attribute (.Name y q) "extend" apos) [e] [] cpos) (oMut i "list" fExt ta) :=
  ve_mut PySem.F.plainAttrs_list PySem.F.slot_list_extend PySem.F.type_list_extend mt_extend mut_extend (.inl rfl) pv ha hbase hfew hline hs
/-! ### x[k] = v -/
def putD (kvs : List (Key × D)) (k : Key) (v : D) : List (Key × D) :=
  if (kvs.any fun kv => decide (kv.1 = k)) = true then kvs.map (fun kv => if kv.1 = k then (kv.1, v) else kv) else kvs ++ [(k, v)]
def dropD (kvs : List (Key × D)) (k : Key) : List (Key × D) := kvs.filter fun kv => decide (kv.1 ≠ k)
theorem Repk.anyk {kvs : List (Key × D)} {ys : List (Key × V)} (k : Key) (h : Repk K G kvs ys) : (ys.any fun kv => decide (kv.1 = k)) = (kvs.any fun kv => decide (kv.1 = k)) := by
  induction kvs generalizing ys with
  | nil => cases (show ys = [] by simpa [Repk] using h); rfl
  | cons c cs ih =>
    obtain ⟨k', d'⟩ := c
    simp only [Repk] at h
    obtain ⟨y, r, rfl, h1, h2⟩ := h
    simp only [List.any_cons, ih h2]
theorem Repk.mapk {kvs : List (Key × D)} {ys : List (Key × V)} (k : Key) (h : Repk K G kvs ys) (r : Rep K G d v) : Repk K G (kvs.map fun kv => if kv.1 = k then (kv.1, d) else kv) (ys.map fun kv => if kv.1 = k then (kv.1, v) else kv) := by
  induction kvs generalizing ys with
  | nil => cases (show ys = [] by simpa [Repk] using h); simp [Repk]
  | cons c cs ih =>
    obtain ⟨k', d'⟩ := c
    simp only [Repk] at h
    obtain ⟨y, r', rfl, h1, h2⟩ := h
    by_cases e : k' = k
    · subst e; simp only [List.map_cons, if_true, Repk]; exact ⟨v, _, rfl, r, ih h2⟩
    · simp only [List.map_cons, e, if_false, Repk]; exact ⟨y, _, rfl, h1, ih h2⟩
theorem Repk.app {kvs ls : List (Key × D)} {ys zs : List (Key × V)} (h : Repk K G kvs ys) (h2 : Repk K G ls zs) : Repk K G (kvs ++ ls) (ys ++ zs) := by
  induction kvs generalizing ys with
  | nil => cases (show ys = [] by simpa [Repk] using h); exact h2
  | cons c cs ih =>
    obtain ⟨k', d'⟩ := c
    simp only [Repk] at h
    obtain ⟨y, r', rfl, h1, h3⟩ := h
    simp only [List.cons_append, Repk]; exact ⟨y, _, rfl, h1, ih h3⟩
theorem Repk.put {kvs : List (Key × D)} {ys : List (Key × V)} (k : Key) (h : Repk K G kvs ys) (r : Rep K G d v) : Repk K G (putD kvs k d) (putK ys k v) := by
  unfold putD putK
  rw [h.anyk k]
  split
  · exact h.mapk k r
  · exact h.app (by simp only [Repk]; exact ⟨v, [], rfl, r, rfl⟩)
theorem Repk.drp {kvs : List (Key × D)} {ys : List (Key × V)} (k : Key) (h : Repk K G kvs ys) : Repk K G (dropD kvs k) (dropK ys k) := by
  unfold dropD dropK
  induction kvs generalizing ys with
  | nil => cases (show ys = [] by simpa [Repk] using h); simp [Repk]
  | cons c cs ih =>
    obtain ⟨k', d'⟩ := c
    simp only [Repk] at h
    obtain ⟨y, r', rfl, h1, h2⟩ := h
    by_cases e : k' = k
    · simp only [List.filter_cons, e, ne_eq, not_true, decide_false, Bool.false_eq_true, if_false]; exact ih h2
    · simp only [List.filter_cons, e, ne_eq, not_false_eq_true, decide_true, if_true, Repk]; exact ⟨y, _, rfl, h1, ih h2⟩
def setD : D → D → D → Option D
  | .lst ds, .int k, x => (ixN ds.length k).map fun j => .lst (ds.set j x)
  | .dct kvs, y, x => (keyD y).bind fun key => if fits (kvs.length + 1) then some (.dct (putD kvs key x)) else none
  | _, _, _ => none
def rSet : TSet := fun o i v H Q => rSetL o i v H Q ∨ rSetD o i v H Q
theorem set_any (hu : X.A.units + 1 < cLine) : PSet X rSet := by
  intro pins s σ H o i v ov iv u Q I r1 r2 r3 h
  rcases h with h | h
  · exact set_list pins s σ H o i v ov iv u Q I r1 r2 r3 h
  · exact set_dict hu pins s σ H o i v ov iv u Q I r1 r2 r3 h
def sSto (i : Nat) (tv : VTE) (tk : VTB) : VTS := fun D env => tv env (fun x env1 => (rd env1 i).isSome = true ∧ tk env1 (fun b env2 => ∃ c y d', own env2 i = some c ∧ b.get env2 = some y ∧ setD c y x = some d' ∧ D.nx (setS env2 i d')) D.ex) D.ex
theorem Ok.seen {i : Nat} (k : Ok K F env σ G H) (h : (rd env i).isSome = true) : ∃ v, σ[i]? = some (some v) := by
  obtain ⟨d, hd⟩ := Option.isSome_iff_exists.mp h
  rcases rd_some hd with e | e | e
  · obtain ⟨u, e2, _⟩ := k.slot i _ e; exact ⟨u, e2⟩
  · obtain ⟨u, e2, _⟩ := k.slot i _ e; exact ⟨u, e2⟩
  · obtain ⟨u, e2, _⟩ := k.slot i _ e; exact ⟨u, e2⟩
theorem vs_sto {i : Nat} {y : Str} {q pos tpos : Pos} {e ix : Expr} {tv : VTE} {tk : VTB} (cx : VC X W k) (pv : PE X (.Name y q) (tVar i)) (hv : VE X W e tv) (hk : VB X W ix tk)
    (ha : ∀ v, assign (.Subscript (.Name y q) ix tpos) X.env v = (do
      let ov ← holding [v] (eval (.Name y q) X.env)
      let iv ← holding [v, ov] (eval ix X.env)
      standAt tpos
      holding [v, ov, iv] (setItem ov iv v)
      release [v, ov, iv] []) := by intro _; rfl)
    (hs : swapsWithSole [.Subscript (.Name y q) ix tpos] e pos.line X.env = pure false := by rfl) (hw : swappedStores [.Subscript (.Name y q) ix tpos] e X.env = pure none := by rfl)
    (h1 : (assignEach [.Subscript (.Name y q) ix tpos] X.env).map (·.2) = [assign (.Subscript (.Name y q) ix tpos) X.env] := by rfl) : VS X W (.Assign [.Subscript (.Name y q) ix tpos] e pos) (sSto i tv tk) := by
  obtain ⟨pa, p1, s1⟩ := hv.ex
  obtain ⟨pb, p2, s2⟩ := hk.ex
  refine ⟨_, ps_asg p1 (pg_sub pv p2 (set_any (by have := cx.hr.un; omega)) ha) hs hw h1, fun F env σ G H D DD k c h => ?_⟩
  refine s1 F env σ G H _ D.ex _ k c.ex h fun x env1 v G1 H1 k1 g1 r1 ⟨hi, h2⟩ => ?_
  obtain ⟨ov, eo⟩ := k1.seen hi
  refine ⟨ov, eo, s2 F env1 σ G1 H1 _ D.ex _ k1 c.ex h2 fun b env2 kv G2 H2 k2 g2 r2 ⟨cc, y, d', e1, e2, e3, hq⟩ => ?_⟩
  have rx := r1.gle g2
  unfold setD at e3
  split at e3
  · rename_i kk
    simp only [Option.map_eq_some_iff] at e3
    obtain ⟨j, ej, rfl⟩ := e3
    obtain ⟨p, ys, e4, h4, h5, h6, h7, h8⟩ := k2.lstOwn e1
    rw [eo] at e4; cases e4
    have := (k2.read e2 r2).int; subst this
    refine .inl ⟨p, ys, kk, j, rfl, rfl, h4, by rw [h7.len]; exact ej, c.nx _ _ G2 _ (h8 _ _ (h7.set rx j) (by simpa using h6)) hq⟩
  · simp only [Option.bind_eq_some_iff] at e3
    obtain ⟨key, ek, e3⟩ := e3
    split at e3
    · rename_i hfit
      cases e3
      obtain ⟨p, ys, e4, h4, h5, h6, h7, h8⟩ := k2.dctOwn e1
      rw [eo] at e4; cases e4
      have := keyD_V (k2.read e2 r2) ek; subst this
      have hf := fits_ok hfit
      have hl := h7.len
      have hp := length_putK ys key v
      refine .inr ⟨p, _, rfl, .k h4 (by omega), c.nx _ _ G2 _ (h8 _ _ (h7.put key rx) (by omega)) hq⟩
    · cases e3
  · cases e3
/-! ### d.pop(k), d.pop(k, x) -/
def oDPop1 (i : Nat) (tk : VTB) : VTE := fun env Q E => (∃ kvs, own env i = some (.dct kvs)) ∧ tk env (fun b env1 => ∃ kvs y key d, own env1 i = some (.dct kvs) ∧ b.get env1 = some y ∧ keyD y = some key ∧ valD kvs key = some d ∧ Q d (setS env1 i (.dct (dropD kvs key)))) E
theorem dropK_len (kvs : List (Key × V)) (key : Key) : (dropK kvs key).length ≤ kvs.length := List.length_filter_le _ _
theorem ve_dpop1 {i : Nat} {y : Str} {q apos cpos : Pos} {e : Expr} {tk : VTB} (pv : PE X (.Name y q) (tVar i)) (hk : VB X W e tk) (m : M1 X (.Name y q) "pop" apos e cpos) : VE X W (.Call (.Attribute (.Name y q) "pop" apos) [e] [] cpos) (oDPop1 i tk) := by
  obtain ⟨pb, p2, s2⟩ := hk.ex
  refine ⟨_, pe_dpop1 pv p2 m, fun F env σ G H Q E Qh k xo ht q => ?_⟩
  obtain ⟨⟨kvs0, h0⟩, ht⟩ := ht
  obtain ⟨p, ys, e4, h4, _⟩ := k.dctOwn h0
  refine ⟨.ref p, e4, p, rfl, .inl ⟨ys, .inl h4⟩, s2 F env σ G H _ E _ k xo ht fun b env1 v G1 H1 k1 g1 r1 ⟨kvs, y, key, d, e1, e2, e3, e5, hq⟩ => ?_⟩
  obtain ⟨p', ys', e6, h6, h7, h8, h9, h10⟩ := k1.dctOwn e1
  rw [e4] at e6; cases e6
  rcases h9.val key with ⟨_, z⟩ | ⟨v', d', z1, z2, z3⟩
  · rw [e5] at z; cases z
  · rw [e5] at z2; cases z2
    exact ⟨ys', key, v', h6, keyD_V (k1.read e2 r1) e3, z1, q d _ v' G1 _ (h10 _ _ (h9.drp key) (Nat.le_trans (dropK_len _ _) h8)) g1 z3 hq⟩
/-- there or not -/
def popq (o : Option D) (Qd : D → Prop) (Qn : Prop) : Prop := match o with
  | some d => Qd d
  | none => Qn
def oDPop2 (i : Nat) (tk : VTB) (tx : VTE) : VTE := fun env Q E => (∃ kvs, own env i = some (.dct kvs)) ∧ tk env (fun b env1 => ∃ y key, b.get env1 = some y ∧ keyD y = some key ∧ tx env1 (fun x env2 => ∃ kvs, own env2 i = some (.dct kvs) ∧
  popq (valD kvs key) (fun d => Q d (setS env2 i (.dct (dropD kvs key)))) (Q x env2)) E) E
theorem ve_dpop2 {i : Nat} {y : Str} {q apos cpos : Pos} {e f : Expr} {tk : VTB} {tx : VTE} (pv : PE X (.Name y q) (tVar i)) (hk : VB X W e tk) (hx : VE X W f tx) (m : M2 X (.Name y q) "pop" apos e f cpos) : VE X W (.Call (.Attribute (.Name y q) "pop" apos) [e, f] [] cpos) (oDPop2 i tk tx) := by
  obtain ⟨pb, p2, s2⟩ := hk.ex
  obtain ⟨pc, p3, s3⟩ := hx.ex
  refine ⟨_, pe_dpop2 pv p2 p3 m, fun F env σ G H Q E Qh k xo ht q => ?_⟩
  obtain ⟨⟨kvs0, h0⟩, ht⟩ := ht
  obtain ⟨p, ys, e4, h4, _⟩ := k.dctOwn h0
  refine ⟨.ref p, e4, p, rfl, .inl ⟨ys, .inl h4⟩, s2 F env σ G H _ E _ k xo ht fun b env1 v G1 H1 k1 g1 r1 ⟨y, key, e2, e3, ht2⟩ => ?_⟩
  refine s3 F env1 σ G1 H1 _ E _ k1 xo ht2 fun x env2 xv G2 H2 k2 g2 r2 ⟨kvs, e1, hm⟩ => ?_
  obtain ⟨p', ys', e6, h6, h7, h8, h9, h10⟩ := k2.dctOwn e1
  rw [e4] at e6; cases e6
  have ev := keyD_V (k1.read e2 r1) e3
  rcases h9.val key with ⟨z0, z⟩ | ⟨v', d', z1, z2, z3⟩
  · rw [z] at hm
    refine ⟨ys', key, h6, ev, fun v hv => ?_, fun _ => q x _ xv G2 _ k2 (g1.trans g2) r2 hm⟩
    rw [z0] at hv; cases hv
  · rw [z2] at hm
    refine ⟨ys', key, h6, ev, fun v hv => ?_, fun hv => ?_⟩
    · rw [z1] at hv; cases hv
      exact q d' _ _ G2 _ (h10 _ _ (h9.drp key) (Nat.le_trans (dropK_len _ _) h8)) (g1.trans g2) z3 hm
    · rw [z1] at hv; cases hv
/-! ### d.get(k, x) -/
def oDGet2 (td tk : VTB) (tx : VTE) : VTE := fun env Q E => td env (fun c env1 => (∃ kvs, c.get env1 = some (.dct kvs)) ∧ tk env1 (fun b env2 => tx env2 (fun x env3 => ∃ kvs y key, c.get env3 = some (.dct kvs) ∧ b.get env3 = some y ∧ keyD y = some key ∧ Q ((valD kvs key).getD x) env3) E) E) E
theorem ve_dget2 {o e f : Expr} {apos cpos : Pos} {td tk : VTB} {tx : VTE} (cx : VC X W k) (hd : VB X W o td) (hk : VB X W e tk) (hx : VE X W f tx) (m : M2 X o "get" apos e f cpos) : VE X W (.Call (.Attribute o "get" apos) [e, f] [] cpos) (oDGet2 td tk tx) := by
  obtain ⟨pa, p1, s1⟩ := hd.ex
  obtain ⟨pb, p2, s2⟩ := hk.ex
  obtain ⟨pc, p3, s3⟩ := hx.ex
  refine ⟨_, pe_dget2 (by have := cx.hr.un; omega) p1 p2 p3 m, fun F env σ G H Q E Qh k xo ht q => ?_⟩
  refine s1 F env σ G H _ E _ k xo ht fun c env1 v G1 H1 k1 g1 r1 ⟨⟨kvs0, h0⟩, ht1⟩ => ?_
  obtain ⟨a, ys, rfl, hr, _⟩ := (k1.read h0 r1).dct k1.sub
  refine ⟨a, rfl, .inl ⟨ys, hr⟩, s2 F env1 σ G1 H1 _ E _ k1 xo ht1 fun b env2 bv G2 H2 k2 g2 r2 ht2 => ?_⟩
  refine s3 F env2 σ G2 H2 _ E _ k2 xo ht2 fun x env3 xv G3 H3 k3 g3 r3 ⟨kvs, y, key, e1, e2, e3, hq⟩ => ?_
  obtain ⟨a', ys', ea, hr', _, rk⟩ := (k3.read e1 (r1.gle (g2.trans g3))).dct k3.sub
  cases ea
  have := keyD_V (k3.read e2 (r2.gle g3)) e3; subst this
  refine ⟨valV ys' key, .inl ⟨ys', key, hr', rfl, rfl⟩, ?_⟩
  rcases rk.val key with ⟨z0, z⟩ | ⟨v', d', z1, z2, z3⟩
  · rw [z] at hq; rw [z0]; exact q x _ xv G3 H3 k3 ((g1.trans g2).trans g3) r3 hq
  · rw [z2] at hq; rw [z1]; exact q d' _ v' G3 H3 k3 ((g1.trans g2).trans g3) z3 hq
end
end VL
set_option linter.all false
set_option maxRecDepth 100000
set_option maxHeartbeats 4000000
namespace VL
open PySem PySem.Spec PyProof.Rows L2

/-! ### a caught exception, known from then on -/
section
variable {X : Cx} {pins : List (Addr × Obj)} {σ : L2.St} {H : Hp} {s s' sI : Shared} {B : Heap} {a : Addr} {o : HO}
theorem Inv.landedT (I : Inv X pins σ H sI) (nb : ∀ b o, sI.heap.get? b = some o → b ∉ frs X.stack → B.get? b = some o) (st : B.StaysIn s'.heap) (up : sI.heap.UpToSlots s'.heap) (os : s'.os = sI.os) (ag : AllBare s'.gens)
    (na : H a = none) (hI : sI.heap.get? a = none) (new : ObjOk X.prog X.w (upd H a o) s'.heap a o) : Inv X pins σ (upd H a o) s' := by
  have nf : ∀ b ∈ frs X.stack, ∀ o, sI.heap.get? b = some o → ∃ sl, s'.heap.get? b = some { o with slots := sl } := fun b hb o e => by
    obtain ⟨_, o', e', hd⟩ := I.stack.mem hb
    rw [e] at e'; cases e'
    exact up b o e hd
  have ne : ∀ b o, sI.heap.get? b = some o → b ≠ a := fun b o e z => by rw [z, hI] at e; cases e
  have J := I.call (ch := []) (h' := s'.heap) (g' := s'.gens) (t' := s'.toks) (d' := s'.drawn) (H' := upd H a o)
    ⟨fun b o e _ hb _ => st b o (nb b o e hb), fun b o e _ hb _ => nf b hb o e, fun b u e n _ => by rw [upd_ne (ne b u e)]; exact n, fun b o e _ => by
      by_cases hb : b ∈ frs X.stack
      · obtain ⟨sl, q⟩ := nf b hb o e
        exact ⟨_, q⟩
      · exact ⟨o, st b o (nb b o e hb)⟩, fun b xs e => by rw [upd_ne (ne_of_none e na)]; exact e, fun b u xs e => by rw [upd_ne (ne_of_none e na)]; exact e, fun b ps e => ⟨#[], by rw [upd_ne (ne_of_none e na), e]; simp⟩⟩
    (HOk.laidN ((I.inGround nb).kept st) (fun _ _ q => q) na new) ag (fun _ z => nomatch z)
  obtain ⟨a1, a2, a3, a4, a5⟩ := s'
  have e5 : a5 = sI.os := os
  subst e5
  exact J
theorem exH_ok {P : Program} {w : World} {h : Heap} {cls : Value} {d : Option Addr} {oe : Obj} {vs : Array Value} (e : h.get? a = some oe) (z : Zc cls d oe) (q : oe.data = .fields vs) : ObjOk P w H h a (ExH cls d a) :=
  ⟨⟨oe, vs, e, z, q⟩, ⟨oe, e⟩, fun _ _ ⟨o, v, q, r⟩ k => ⟨o, v, k o q, r⟩⟩
theorem Inv.suiteT (I : Inv X pins σ H s) (a : Addr) : Inv (X.suite a (X.pn ++ pins)) [] σ H s :=
  ⟨I.ok.suite _ _, I.os, I.bare, I.base, I.loc, I.cell, I.free, I.freeC, fun p hp => I.pin p (by simpa using hp), I.hok, I.len⟩
theorem Inv.unsuiteT (I : Inv (X.suite a (X.pn ++ pins)) [] σ H s) (ok : X.Ok) : Inv X pins σ H s :=
  ⟨ok, I.os, I.bare, I.base, I.loc, I.cell, I.free, I.freeC, fun p hp => I.pin p (by simpa using hp), I.hok, I.len⟩
end
/-- what the clause 'except x as n' wishes: slot i is n's; the exception is known -/
def wAsT (K : PySem.W.Frag) (c : Value) (i : Nat) (ts : TS) (Wout : WX) (D : Ends) : WX := fun cls d σ H =>
  ∃ b, PySem.W.exmOne K cls c = some b ∧ (b = true → ∀ a, H a = none → ts { nx := fun σ' H' => D.nx (σ'.set i none) H', rt := D.rt, bk := fun σ' H' => D.bk (σ'.set i none) H', ct := fun σ' H' => D.ct (σ'.set i none) H' } (σ.set i (some (.ref a))) (upd H a (ExH cls d a))) ∧
    (b = false → Wout cls d σ H)
section
variable {X : Cx} {x n : Str} {c : Value} {i : Nat} {body suite : List Stmt} {b₀ : Stmt} {np pos pos' : Pos} {tb : WX → TS} {ts : TS} {Wout : WX}
theorem ps_try_asT (hs : X.stack = X.env :: X.outer) (hf : X.env.frame = some X.env.locals) (hN : X.N.Nodup) (hi : X.N[i]? = some n) (hln : X.env.kindOf n = some .local) (hc : Names X x c) (tk : Takes X Wout)
    (hb : ∀ (W : WX) (pn : List (Addr × Obj)) (xe : Value → Shared → Prop), Takes (X.tr pn xe) W → PassesOwn (model X.prog X.w) X.A X.env xe → (∀ hd : Option Value, PassesOwnAt (model X.prog X.w) (X.A.mark hd) X.A X.env xe) → PSs (X.tr pn xe) body (tb W))
    (hsu : ∀ (a : Addr) (pn : List (Addr × Obj)), PSs (X.suite a pn) (b₀ :: suite) ts) :
    PS X (.Try body [.ExceptHandler (some (.Name x np)) (some n) (b₀ :: suite) pos'] [] [] pos) (fun D σ H => tb (wAsT X.K c i ts Wout D) D σ H) := by
  refine ⟨fun pins s σ H D I h => ?_⟩
  have ok := I.ok
  have hfr : X.A.frames = some (X.env :: X.outer) := by rw [ok.frames, hs]
  have hloc : Loc X.env.scope n := .inl hln
  refine wpAny_Try_except ?_
  refine wpAny_mono ((hb (wAsT X.K c i ts Wout D) (X.pn ++ pins) (fun e s₁ => wpAny (model X.prog X.w) X.A (noteFrame e X.env) (fun _ s₂ => wpAny (model X.prog X.w) X.A (setFlight e none) (fun _ s₃ =>
    wpAny (model X.prog X.w) X.A (handleBy e X.env [.ExceptHandler (some (.Name x np)) (some n) (b₀ :: suite) pos']) (SP X pins D) X.xe s₃) X.xe s₂) X.xe s₁) (fun u s' xx => ?_) PassesOwn.looking (fun _ => PassesOwnAt.looking)).run [] s σ H D (I.toTry _) h) (fun f s1 hsp => ?_) (fun e s1 he => he)
  · obtain ⟨a, B, sI, pins', σ', H', cls, d, rfl, J', nb, up, sky, na, os, ag, b, hb1, hyes, hno⟩ := xx
    have J : Inv X pins σ' H' sI := J'.ofTry ok
    have sky' : Sky B (X.env :: X.outer) a (Zc cls d) X.env.locals s'.heap := by rw [← hs]; exact sky
    show wpAny (model X.prog X.w) X.A (noteFrame (.ref a) X.env) _ _ _
    refine Sky.land Zc.steady hfr hf sky' fun h3 fl3 up3 => ?_
    obtain ⟨oe3, vs3, he3, hz3, hd3⟩ := fl3.there
    have notFr : ∀ {h : Heap} {o : Obj} {vs : Array Value}, h.FunFrames B (X.env :: X.outer) → h.get? a = some o → o.data = .fields vs → a ∉ frs (X.env :: X.outer) := fun {h o vs} ff e dd hm => by
      obtain ⟨_, o', e', hnf⟩ := ff.mem hm
      rw [e] at e'; cases e'
      exact hnf _ dd
    have nfr := notFr fl3.2.2.1 he3 hd3
    have hI : sI.heap.get? a = none := by
      cases e : sI.heap.get? a with
      | none => rfl
      | some o =>
        have := nb a o e (by show a ∉ frs X.stack; rw [hs]; exact nfr)
        rw [fl3.2.1] at this; cases this
    have J3 : Inv X pins σ' (upd H' a (ExH cls d a)) { s' with heap := h3 } := Inv.landedT J nb fl3.1 (up.trans up3) os ag na hI (exH_ok he3 hz3 hd3)
    have S3 := Inv.suiteT J3 a
    refine wpAny_handleBy_cons (codeAny_handlers_test ?_) (by intro q; cases q)
    have LT : PySem.W.Looks (model X.prog X.w) h3 (typeOf (.ref a)) cls := fun A Q E s k q => wpAny_typeOf_ref (k _ _ he3) (by rw [hz3.1]; exact q)
    have LM := PySem.W.exm_one (M := model X.prog X.w) (J3.kIn) LT hb1
    have test : ∀ {Q : Value → Shared → Prop} {E : Value → Shared → Prop}, Q c { s' with heap := h3 } → wpAny (model X.prog X.w) (X.A.mark (some (.ref a))) (eval (.Name x np) X.env) Q E { s' with heap := h3 } := fun {Q E} q => by
      obtain ⟨hg, hdbg, hm | ⟨hm, hv, hnn⟩⟩ := hc
      · exact ld_glob (X := X.suite a (X.pn ++ pins)) S3 hg hm q hdbg
      · exact ld_blt (X := X.suite a (X.pn ++ pins)) S3 hg hm hv q hnn hdbg
    refine test (LM.here ?_)
    cases b with
    | true =>
      refine codeAny_handlers_suite_as ?_
      refine HandSPX.lands_againZ fl3 fun h4 fl4 up4 => ?_
      obtain ⟨oe4, vs4, he4, hz4, hd4⟩ := fl4.there
      have J4 : Inv X pins σ' (upd H' a (ExH cls d a)) { s' with heap := h4 } := Inv.landedT J nb fl4.1 ((up.trans up3).trans up4) os ag na hI (exH_ok he4 hz4 hd4)
      have S4 := Inv.suiteT J4 a
      refine store_ok (X := X.suite a (X.pn ++ pins)) (v := .ref a) S4 hN hi hloc rfl (fun s5 S5 => ?_) (.inr hln)
      refine wpAny_mono ((hsu a (X.pn ++ pins)).run [] s5 _ _ _ S5 (hyes rfl a na)) (fun f s6 hsp => ?_) (fun _ _ z => False.elim z)
      have end_ : ∀ {σ6 : L2.St} {H6 : Hp} {Q : Shared → Prop}, Inv (X.suite a (X.pn ++ pins)) [] σ6 H6 s6 → (∀ s7, Inv X pins (σ6.set i none) H6 s7 → Q s7) →
          wpAny (model X.prog X.w) X.A (do bindName X.env n .none; unbindBehindTheSuite X.env n pos') (fun _ s7 => Q s7) X.xe s6 := fun {σ6 H6 Q} S6 hq => gone_ok (Inv.unsuiteT S6 ok) hN hi hln hq
      cases f with
      | next =>
        obtain ⟨σ6, H6, S6, q6⟩ := hsp
        exact end_ S6 fun s7 J7 => ⟨_, _, J7, q6⟩
      | brk =>
        obtain ⟨σ6, H6, S6, q6⟩ := hsp
        exact end_ S6 fun s7 J7 => ⟨_, _, J7, q6⟩
      | cont =>
        obtain ⟨σ6, H6, S6, q6⟩ := hsp
        exact end_ S6 fun s7 J7 => ⟨_, _, J7, q6⟩
      | ret u =>
        obtain ⟨v6, σ6, H6, S6, r6, q6⟩ := hsp
        exact end_ S6 fun s7 J7 => ⟨_, _, _, J7, r6, q6⟩
    | false =>
      show wpAny _ X.A (handleBy (.ref a) X.env []) _ _ _
      refine wpAny_handleBy_nil ?_
      obtain ⟨k1, k2, k3, oe, vs, T, oT, ts', he, hz, hd, h1, hr⟩ := id fl3
      unfold PySem.passOn
      refine wpAny_bind (wpAny_field he hd h1 ?_)
      rw [if_neg (show ¬ ((Value.ref T == Value.none) = true) from by simp)]
      have fin : wpAny (model X.prog X.w) X.A (setFlight (.ref a) X.env.frame) (fun _ s4 => wpAny (model X.prog X.w) X.A (throw (.ref a) : Sem Flow) (SP X pins D) X.xe s4) X.xe { s' with heap := h3 } := by
        rw [hf]
        refine HandSPX.setFlight_upZ fl3 fun h4 hh4 up4 => wpAny_throw (tk _ _ ?_)
        exact ⟨a, B, sI, pins, σ', H', cls, d, rfl, J, nb, (up.trans up3).trans up4, .inr (.inr (by rw [hs]; exact hh4)), na, os, ag, hno rfl⟩
      first
        | exact wpAny_bind (wpAny_pure (wpAny_bind fin))
        | exact wpAny_bind fin
  · cases f with
    | next =>
      obtain ⟨σ', H', J', q⟩ := hsp
      exact wpAny_execs_nil ⟨σ', H', J'.ofTry ok, q⟩
    | brk =>
      obtain ⟨σ', H', J', q⟩ := hsp
      exact ⟨σ', H', J'.ofTry ok, q⟩
    | cont =>
      obtain ⟨σ', H', J', q⟩ := hsp
      exact ⟨σ', H', J'.ofTry ok, q⟩
    | ret u =>
      obtain ⟨v, σ', H', J', r, q⟩ := hsp
      exact ⟨v, σ', H', J'.ofTry ok, r, q⟩
theorem ps_try_asN (hs : X.stack = X.env :: X.outer) (hf : X.env.frame = some X.env.locals) (hN : X.N.Nodup) (hi : X.N[i]? = some n) (hln : X.env.kindOf n = some .local) (hc : Names X x c) (tk : L2N.Takes X Wout)
    (hb : ∀ (W : WX) (pn : List (Addr × Obj)) (xe : Value → Shared → Prop), L2N.Takes (X.tr pn xe) W → PassesOwn (model X.prog X.w) X.A X.env xe → PSs (X.tr pn xe) body (tb W))
    (hsu : ∀ (a : Addr) (pn : List (Addr × Obj)), PSs (X.suite a pn) (b₀ :: suite) ts) :
    PS X (.Try body [.ExceptHandler (some (.Name x np)) (some n) (b₀ :: suite) pos'] [] [] pos) (fun D σ H => tb (wAsT X.K c i ts Wout D) D σ H) := by
  refine ⟨fun pins s σ H D I h => ?_⟩
  have ok := I.ok
  have hfr : X.A.frames = some (X.env :: X.outer) := by rw [ok.frames, hs]
  have hloc : Loc X.env.scope n := .inl hln
  refine wpAny_Try_except ?_
  refine wpAny_mono ((hb (wAsT X.K c i ts Wout D) (X.pn ++ pins) (fun e s₁ => wpAny (model X.prog X.w) X.A (noteFrame e X.env) (fun _ s₂ => wpAny (model X.prog X.w) X.A (setFlight e none) (fun _ s₃ =>
    wpAny (model X.prog X.w) X.A (handleBy e X.env [.ExceptHandler (some (.Name x np)) (some n) (b₀ :: suite) pos']) (SP X pins D) X.xe s₃) X.xe s₂) X.xe s₁) (fun u s' xx => ?_) PassesOwn.looking).run [] s σ H D (I.toTry _) h) (fun f s1 hsp => ?_) (fun e s1 he => he)
  · obtain ⟨a, B, sI, pins', σ', H', cls, d, rfl, J', nb, up, sky, na, os, ag, b, hb1, hyes, hno⟩ := xx
    have J : Inv X pins σ' H' sI := J'.ofTry ok
    have sky' : Sky B (X.env :: X.outer) a (L2N.Zn cls d) X.env.locals s'.heap := by rw [← hs]; exact sky
    show wpAny (model X.prog X.w) X.A (noteFrame (.ref a) X.env) _ _ _
    refine L2N.Sky.land L2N.Zn.steady hfr hf sky' fun h3 fl3 up3 => ?_
    obtain ⟨oe3, vs3, he3, hz3, hd3⟩ := fl3.there
    have notFr : ∀ {h : Heap} {o : Obj} {vs : Array Value}, h.FunFrames B (X.env :: X.outer) → h.get? a = some o → o.data = .fields vs → a ∉ frs (X.env :: X.outer) := fun {h o vs} ff e dd hm => by
      obtain ⟨_, o', e', hnf⟩ := ff.mem hm
      rw [e] at e'; cases e'
      exact hnf _ dd
    have nfr := notFr fl3.2.2.1 he3 hd3
    have hI : sI.heap.get? a = none := by
      cases e : sI.heap.get? a with
      | none => rfl
      | some o =>
        have := nb a o e (by show a ∉ frs X.stack; rw [hs]; exact nfr)
        rw [fl3.2.1] at this; cases this
    have J3 : Inv X pins σ' (upd H' a (ExH cls d a)) { s' with heap := h3 } := Inv.landedT J nb fl3.1 (up.trans up3) os ag na hI (exH_ok he3 hz3.zc hd3)
    have S3 := Inv.suiteT J3 a
    refine wpAny_handleBy_cons (codeAny_handlers_test ?_) (by intro q; cases q)
    have LT : PySem.W.Looks (model X.prog X.w) h3 (typeOf (.ref a)) cls := fun A Q E s k q => wpAny_typeOf_ref (k _ _ he3) (by rw [hz3.1]; exact q)
    have LM := PySem.W.exm_one (M := model X.prog X.w) (J3.kIn) LT hb1
    have test : ∀ {Q : Value → Shared → Prop} {E : Value → Shared → Prop}, Q c { s' with heap := h3 } → wpAny (model X.prog X.w) (X.A.mark (some (.ref a))) (eval (.Name x np) X.env) Q E { s' with heap := h3 } := fun {Q E} q => by
      obtain ⟨hg, hdbg, hm | ⟨hm, hv, hnn⟩⟩ := hc
      · exact ld_glob (X := X.suite a (X.pn ++ pins)) S3 hg hm q hdbg
      · exact ld_blt (X := X.suite a (X.pn ++ pins)) S3 hg hm hv q hnn hdbg
    refine test (LM.here ?_)
    cases b with
    | true =>
      refine codeAny_handlers_suite_as ?_
      refine HandSPX.lands_againZ fl3 fun h4 fl4 up4 => ?_
      obtain ⟨oe4, vs4, he4, hz4, hd4⟩ := fl4.there
      have J4 : Inv X pins σ' (upd H' a (ExH cls d a)) { s' with heap := h4 } := Inv.landedT J nb fl4.1 ((up.trans up3).trans up4) os ag na hI (exH_ok he4 hz4.zc hd4)
      have S4 := Inv.suiteT J4 a
      refine store_ok (X := X.suite a (X.pn ++ pins)) (v := .ref a) S4 hN hi hloc rfl (fun s5 S5 => ?_) (.inr hln)
      refine wpAny_mono ((hsu a (X.pn ++ pins)).run [] s5 _ _ _ S5 (hyes rfl a na)) (fun f s6 hsp => ?_) (fun _ _ z => False.elim z)
      have end_ : ∀ {σ6 : L2.St} {H6 : Hp} {Q : Shared → Prop}, Inv (X.suite a (X.pn ++ pins)) [] σ6 H6 s6 → (∀ s7, Inv X pins (σ6.set i none) H6 s7 → Q s7) →
          wpAny (model X.prog X.w) X.A (do bindName X.env n .none; unbindBehindTheSuite X.env n pos') (fun _ s7 => Q s7) X.xe s6 := fun {σ6 H6 Q} S6 hq => gone_ok (Inv.unsuiteT S6 ok) hN hi hln hq
      cases f with
      | next =>
        obtain ⟨σ6, H6, S6, q6⟩ := hsp
        exact end_ S6 fun s7 J7 => ⟨_, _, J7, q6⟩
      | brk =>
        obtain ⟨σ6, H6, S6, q6⟩ := hsp
        exact end_ S6 fun s7 J7 => ⟨_, _, J7, q6⟩
      | cont =>
        obtain ⟨σ6, H6, S6, q6⟩ := hsp
        exact end_ S6 fun s7 J7 => ⟨_, _, J7, q6⟩
      | ret u =>
        obtain ⟨v6, σ6, H6, S6, r6, q6⟩ := hsp
        exact end_ S6 fun s7 J7 => ⟨_, _, _, J7, r6, q6⟩
    | false =>
      show wpAny _ X.A (handleBy (.ref a) X.env []) _ _ _
      refine wpAny_handleBy_nil ?_
      obtain ⟨k1, k2, k3, oe, vs, T, oT, ts', he, hz, hd, h1, hr⟩ := id fl3
      unfold PySem.passOn
      refine wpAny_bind (wpAny_field he hd h1 ?_)
      rw [if_neg (show ¬ ((Value.ref T == Value.none) = true) from by simp)]
      have fin : wpAny (model X.prog X.w) X.A (setFlight (.ref a) X.env.frame) (fun _ s4 => wpAny (model X.prog X.w) X.A (throw (.ref a) : Sem Flow) (SP X pins D) X.xe s4) X.xe { s' with heap := h3 } := by
        rw [hf]
        refine HandSPX.setFlight_upZ fl3 fun h4 hh4 up4 => wpAny_throw (tk _ _ ?_)
        exact ⟨a, B, sI, pins, σ', H', cls, d, rfl, J, nb, (up.trans up3).trans up4, .inr (.inr (by rw [hs]; exact hh4)), na, os, ag, hno rfl⟩
      first
        | exact wpAny_bind (wpAny_pure (wpAny_bind fin))
        | exact wpAny_bind fin
  · cases f with
    | next =>
      obtain ⟨σ', H', J', q⟩ := hsp
      exact wpAny_execs_nil ⟨σ', H', J'.ofTry ok, q⟩
    | brk =>
      obtain ⟨σ', H', J', q⟩ := hsp
      exact ⟨σ', H', J'.ofTry ok, q⟩
    | cont =>
      obtain ⟨σ', H', J', q⟩ := hsp
      exact ⟨σ', H', J'.ofTry ok, q⟩
    | ret u =>
      obtain ⟨v, σ', H', J', r, q⟩ := hsp
      exact ⟨v, σ', H', J'.ofTry ok, r, q⟩
end

section
variable {X : Cx} {W : WX} {K : PySem.W.Frag} {F : FrD} {env env' : En} {σ σ' : L2.St} {G H G' H' : Hp} {d : D} {v : V} {p a : Addr} {vs : List V} {ds : List D} {k : Nat} {o o' : HO}
/-! ### raise -/
def sRaise (C : Str) : VTS := fun D env => D.ex C [] env
theorem vs_raise {C : Str} {bmB : List Value} {B newId initId : String} {m : Str} {j : Nat} {p p2 pos pos' : Pos} (cx : VC X W k) (Fb : ExcBaseFacts B newId initId bmB) (q : PySem.W.excIn X.K (He.ga X.K C) bmB newId = true) (gC : X.mg C = some (.ref (He.ga X.K C)))
    (kC : PySem.W.keepIn X.K (.ref (He.ga X.K C)) = true) (r : Raises X (.ref (He.ga X.K C))) (hg : Gl X C) (hdb : (C == ("__debug__" : Str)) = false := by decide) :
    VS X W (.Raise (some (.Call (.Name C p) [.Constant (.str m) j p2] [] pos)) none pos') (sRaise C) := by
  refine ⟨_, L2N.ps_raise cx.calm cx.tk (L2N.pmk_own Fb q gC kC r hg hdb), fun F env σ G H D DD k c h => ?_⟩
  have z : XRep X.K F G H C [] (.ref (He.ga X.K C)) none := by unfold XRep; exact And.intro rfl (Or.inl (by simp))
  exact c.ex C [] env σ G H k h _ _ z
/-! ### try: body, except c as n: suite -/
theorem XRep.know {C : Str} {fs : List (Str × D)} {cls : Value} {dd : Option Addr} (k : Ok K F env σ G H) (x : XRep K F G H C fs cls dd) (ha : H a = none) : ∃ G', Gle G G' ∧ Ok K F env σ G' (upd H a (ExH cls dd a)) ∧ Rep K G' (.exc C fs) (.ref a) := by
  obtain ⟨rfl, h⟩ := x
  rcases h with ⟨rfl, rfl⟩ | ⟨da, ys, rfl, h1, h2, h3, h4⟩
  · refine ⟨upd G a _, Gle.upd (k.gnone ha), k.laid ha, ?_⟩
    simp only [Rep]; exact ⟨a, none, rfl, upd_same, .inl ⟨rfl, trivial⟩⟩
  · have hne : da ≠ a := fun z => by rw [z, ha] at h1; cases h1
    have k1 : Ok K F env σ (upd G da (.xd ys)) H := k.share h3 h4 h1 fun i s e ho => by
      have hs := k.slot i s e
      cases s with
      | un => cases ho
      | sh d => cases ho
      | ow d =>
        obtain ⟨v, e1, h5, _⟩ := hs
        rw [e1] at ho
        cases d <;> first | (cases ho; done) | skip
        · obtain ⟨p, xs, rfl, h6, _⟩ := h5; cases ho; rw [h1] at h6; cases h6
        · obtain ⟨p, xs, rfl, h6, _⟩ := h5; cases ho; rw [h1] at h6; cases h6
        · obtain ⟨p, xs, o, rfl, h6, h7, _, _, h8, _⟩ := h5
          rcases ho with rfl | ho
          · rw [h1] at h6; cases h6; exact BkO.noXd h7
          · exact (Parts.noXd h8 ho _ h1).elim
      | io d =>
        obtain ⟨v, e1, h5, _⟩ := hs
        rw [e1] at ho
        cases d <;> first | (cases ho; done) | skip
        · obtain ⟨p, xs, rfl, h6, _⟩ := h5; cases ho; rw [h1] at h6; cases h6
        · obtain ⟨p, xs, rfl, h6, _⟩ := h5; cases ho; rw [h1] at h6; cases h6
        · obtain ⟨p, xs, o, rfl, h6, h7, _, _, h8, _⟩ := h5
          rcases ho with rfl | ho
          · rw [h1] at h6; cases h6; exact BkO.noXd h7
          · exact (Parts.noXd h8 ho _ h1).elim
    have g1 : Gle G (upd G da (.xd ys)) := Gle.upd h3
    refine ⟨upd (upd G da (.xd ys)) a _, g1.trans (Gle.upd (k1.gnone ha)), k1.laid ha, ?_⟩
    simp only [Rep]
    refine ⟨a, some da, rfl, upd_same, .inr ⟨da, ys, rfl, ?_, h2.gle (g1.trans (Gle.upd (k1.gnone ha)))⟩⟩
    rw [upd_ne hne, upd_same]
/-- m: whether the clause's class takes an exception -/
def sTryAs (m : Str → Option Bool) (i : Nat) (t u : VTS) : VTS := fun D env => t { D with ex := fun C fs env1 => match m C with
  | some true => u { nx := fun e => D.nx (e.set i .un), rt := D.rt, bk := fun e => D.bk (e.set i .un), ct := fun e => D.ct (e.set i .un) } (env1.set i (.sh (.exc C fs)))
  | some false => D.ex C fs env1
  | none => False } env
theorem vs_tryAs {x n : Str} {c : Value} {i : Nat} {body suite : List Stmt} {b₀ : Stmt} {np pos pos' : Pos} {t u : VTS} {m : Str → Option Bool} (cx : VC X W k) (hs : X.stack = X.env :: X.outer) (hf : X.env.frame = some X.env.locals) (hi : X.N[i]? = some n) (hln : X.env.kindOf n = some .local) (hc : Names X x c)
    (hm : ∀ C b, m C = some b → PySem.W.exmOne X.K (.ref (He.ga X.K C)) c = some b)
    (hb : ∀ (W : WX) (pn : List (Addr × Obj)) (xe : Value → Shared → Prop), VC (X.tr pn xe) W k → VSs (X.tr pn xe) W body t)
    (hsu : ∀ (a : Addr) (pn : List (Addr × Obj)), VSs (X.suite a pn) WF (b₀ :: suite) u) :
    VS X W (.Try body [.ExceptHandler (some (.Name x np)) (some n) (b₀ :: suite) pos'] [] [] pos) (sTryAs m i t u) := by
  refine ⟨_, ps_try_asN (tb := fun W' D σ H => ∃ F env G DD', Ok X.K F env σ G H ∧ t DD' env ∧ Comp X.K F W' DD' D) (ts := fun D σ H => ∃ F env G DD', Ok X.K F env σ G H ∧ u DD' env ∧ Comp X.K F WF DD' D) hs hf cx.nd hi hln hc cx.tk (fun W' pn xe tk po => ?_) (fun a pn => ?_), fun F env σ G H D DD k c h => ?_⟩
  · obtain ⟨ts, p1, s1⟩ := (hb W' pn xe ⟨cx.calm, tk, po, cx.hr, cx.nd⟩).ex
    exact ⟨fun pins s σ H D I ⟨F, env, G, DD', k, h, c⟩ => p1.run pins s σ H D I (s1 F env σ G H DD' D k c h)⟩
  · obtain ⟨ts, p1, s1⟩ := (hsu a pn).ex
    exact ⟨fun pins s σ H D I ⟨F, env, G, DD', k, h, c⟩ => p1.run pins s σ H D I (s1 F env σ G H DD' D k c h)⟩
  · refine ⟨F, env, G, _, k, h, ⟨c.nx, c.rt, c.bk, c.ct, ?_⟩⟩
    intro C fs env1 σ1 G1 H1 k1 he cls d xr
    dsimp only at he
    cases e : m C with
    | none => rw [e] at he; exact he.elim
    | some b =>
      rw [e] at he
      have ec := xr.1
      have hb1 := hm C b e
      rw [← ec] at hb1
      refine ⟨b, hb1, fun hb a ha => ?_, fun hb => ?_⟩
      · subst hb
        obtain ⟨G2, g2, k2, r2⟩ := xr.know k1 ha
        refine ⟨F, _, G2, _, k2.put (i := i) (s := .sh _) ⟨_, rfl, r2⟩ (fun a ha => by cases ha), he, ⟨?_, ?_, ?_, ?_, ?_⟩⟩
        · intro env σ G H k h; exact c.nx _ _ G H (Ok.setAny k) h
        · intro r env σ G H v k ro h; exact c.rt r env σ G H v k ro h
        · intro env σ G H k h; exact c.bk _ _ G H (Ok.setAny k) h
        · intro env σ G H k h; exact c.ct _ _ G H (Ok.setAny k) h
        · intro _ _ _ _ _ _ _ h; exact h.elim
      · subst hb
        exact c.ex C fs env1 σ1 G1 H1 k1 he cls d xr
theorem vs_tryAsW {x n : Str} {c : Value} {i : Nat} {body suite : List Stmt} {b₀ : Stmt} {np pos pos' : Pos} {t u : VTS} {m : Str → Option Bool} (cx : VCw X W k) (hs : X.stack = X.env :: X.outer) (hf : X.env.frame = some X.env.locals) (hi : X.N[i]? = some n) (hln : X.env.kindOf n = some .local) (hc : Names X x c)
    (hm : ∀ C b, m C = some b → PySem.W.exmOne X.K (.ref (He.ga X.K C)) c = some b)
    (hb : ∀ (W : WX) (pn : List (Addr × Obj)) (xe : Value → Shared → Prop), VCw (X.tr pn xe) W k → VSs (X.tr pn xe) W body t)
    (hsu : ∀ (a : Addr) (pn : List (Addr × Obj)), VSs (X.suite a pn) WF (b₀ :: suite) u) :
    VS X W (.Try body [.ExceptHandler (some (.Name x np)) (some n) (b₀ :: suite) pos'] [] [] pos) (sTryAs m i t u) := by
  refine ⟨_, ps_try_asT (tb := fun W' D σ H => ∃ F env G DD', Ok X.K F env σ G H ∧ t DD' env ∧ Comp X.K F W' DD' D) (ts := fun D σ H => ∃ F env G DD', Ok X.K F env σ G H ∧ u DD' env ∧ Comp X.K F WF DD' D) hs hf cx.nd hi hln hc cx.tkw (fun W' pn xe tk po pa => ?_) (fun a pn => ?_), fun F env σ G H D DD k c h => ?_⟩
  · obtain ⟨ts, p1, s1⟩ := (hb W' pn xe ⟨⟨cx.calm, takesN tk, po, cx.hr, cx.nd⟩, tk, pa⟩).ex
    exact ⟨fun pins s σ H D I ⟨F, env, G, DD', k, h, c⟩ => p1.run pins s σ H D I (s1 F env σ G H DD' D k c h)⟩
  · obtain ⟨ts, p1, s1⟩ := (hsu a pn).ex
    exact ⟨fun pins s σ H D I ⟨F, env, G, DD', k, h, c⟩ => p1.run pins s σ H D I (s1 F env σ G H DD' D k c h)⟩
  · refine ⟨F, env, G, _, k, h, ⟨c.nx, c.rt, c.bk, c.ct, ?_⟩⟩
    intro C fs env1 σ1 G1 H1 k1 he cls d xr
    dsimp only at he
    cases e : m C with
    | none => rw [e] at he; exact he.elim
    | some b =>
      rw [e] at he
      have ec := xr.1
      have hb1 := hm C b e
      rw [← ec] at hb1
      refine ⟨b, hb1, fun hb a ha => ?_, fun hb => ?_⟩
      · subst hb
        obtain ⟨G2, g2, k2, r2⟩ := xr.know k1 ha
        refine ⟨F, _, G2, _, k2.put (i := i) (s := .sh _) ⟨_, rfl, r2⟩ (fun a ha => by cases ha), he, ⟨?_, ?_, ?_, ?_, ?_⟩⟩
        · intro env σ G H k h; exact c.nx _ _ G H (Ok.setAny k) h
        · intro r env σ G H v k ro h; exact c.rt r env σ G H v k ro h
        · intro env σ G H k h; exact c.bk _ _ G H (Ok.setAny k) h
        · intro env σ G H k h; exact c.ct _ _ G H (Ok.setAny k) h
        · intro _ _ _ _ _ _ _ h; exact h.elim
      · subst hb
        exact c.ex C fs env1 σ1 G1 H1 k1 he cls d xr
def sTryAll (m : Str → Option Bool) (i : Nat) (t u : VTS) : VTS := fun D env => t { D with ex := fun C fs env1 => match m C with
  | some true => u { nx := fun e => D.nx (e.set i .un), rt := D.rt, bk := fun e => D.bk (e.set i .un), ct := fun e => D.ct (e.set i .un) } (env1.set i (.sh (.exc C fs)))
  | _ => False } env
theorem vs_tryAsC {x n : Str} {c : Value} {i : Nat} {body suite : List Stmt} {b₀ : Stmt} {np pos pos' : Pos} {t u : VTS} {m : Str → Option Bool} (cx : VC X W k) (hs : X.stack = X.env :: X.outer) (hf : X.env.frame = some X.env.locals) (hi : X.N[i]? = some n) (hln : X.env.kindOf n = some .local) (hc : Names X x c)
    (hm : ∀ C b, m C = some b → PySem.W.exmOne X.K (.ref (He.ga X.K C)) c = some b)
    (hb : ∀ (W : WX) (pn : List (Addr × Obj)) (xe : Value → Shared → Prop), VCw (X.tr pn xe) W k → VSs (X.tr pn xe) W body t)
    (hsu : ∀ (a : Addr) (pn : List (Addr × Obj)), VSs (X.suite a pn) WF (b₀ :: suite) u) :
    VS X W (.Try body [.ExceptHandler (some (.Name x np)) (some n) (b₀ :: suite) pos'] [] [] pos) (sTryAll m i t u) := by
  refine ⟨_, ps_try_asT (tb := fun W' D σ H => ∃ F env G DD', Ok X.K F env σ G H ∧ t DD' env ∧ Comp X.K F W' DD' D) (ts := fun D σ H => ∃ F env G DD', Ok X.K F env σ G H ∧ u DD' env ∧ Comp X.K F WF DD' D) hs hf cx.nd hi hln hc takes0 (fun W' pn xe tk po pa => ?_) (fun a pn => ?_), fun F env σ G H D DD k c h => ?_⟩
  · obtain ⟨ts, p1, s1⟩ := (hb W' pn xe ⟨⟨cx.calm, takesN tk, po, cx.hr, cx.nd⟩, tk, pa⟩).ex
    exact ⟨fun pins s σ H D I ⟨F, env, G, DD', k, h, c⟩ => p1.run pins s σ H D I (s1 F env σ G H DD' D k c h)⟩
  · obtain ⟨ts, p1, s1⟩ := (hsu a pn).ex
    exact ⟨fun pins s σ H D I ⟨F, env, G, DD', k, h, c⟩ => p1.run pins s σ H D I (s1 F env σ G H DD' D k c h)⟩
  · refine ⟨F, env, G, _, k, h, ⟨c.nx, c.rt, c.bk, c.ct, ?_⟩⟩
    intro C fs env1 σ1 G1 H1 k1 he cls d xr
    dsimp only at he
    cases e : m C with
    | none => rw [e] at he; exact he.elim
    | some b =>
      cases b with
      | false => rw [e] at he; exact he.elim
      | true =>
      rw [e] at he
      have ec := xr.1
      have hb1 := hm C true e
      rw [← ec] at hb1
      refine ⟨true, hb1, fun hb a ha => ?_, fun hb => by cases hb⟩
      · skip
        obtain ⟨G2, g2, k2, r2⟩ := xr.know k1 ha
        refine ⟨F, _, G2, _, k2.put (i := i) (s := .sh _) ⟨_, rfl, r2⟩ (fun a ha => by cases ha), he, ⟨?_, ?_, ?_, ?_, ?_⟩⟩
        · intro env σ G H k h; exact c.nx _ _ G H (Ok.setAny k) h
        · intro r env σ G H v k ro h; exact c.rt r env σ G H v k ro h
        · intro env σ G H k h; exact c.bk _ _ G H (Ok.setAny k) h
        · intro env σ G H k h; exact c.ct _ _ G H (Ok.setAny k) h
        · intro _ _ _ _ _ _ _ h; exact h.elim
end
end VL
set_option linter.all false
set_option maxRecDepth 100000
set_option maxHeartbeats 4000000
namespace VL
open PySem PySem.Spec PyProof.Rows L2

section
variable {X : Cx} {W : WX} {K : PySem.W.Frag} {F : FrD} {env env' : En} {σ σ' : L2.St} {G H G' H' : Hp} {d : D} {v : V} {p a : Addr} {vs : List V} {ds : List D} {k : Nat} {o o' : HO}
/-! ### isinstance -/
def tyN : D → String
  | .non => "NoneType" | .bl _ => "bool" | .int _ => "int" | .str _ => "str" | .lst _ => "list" | .fzl _ => "list" | .tup _ => "tuple" | .dct _ => "dict" | .exc _ _ => "" | .box _ _ => ""
def IsiAt (K : PySem.W.Frag) (cv : Value) (r : Bool) : D → Prop
  | .exc C _ => ExcC K (He.ga K C) ∧ PySem.W.kitOne K (.ref (He.ga K C)) cv = some r
  | .box _ _ => False
  | d => PySem.W.kitOne K (.type (tyN d)) cv = some r
def IsiOk (K : PySem.W.Frag) (cv : Value) (f : D → Option Bool) : Prop := ∀ d r, f d = some r → IsiAt K cv r d
inductive Bt where
  | bool | int | str | list | dict | tuple
def Bt.nm : Bt → String
  | .bool => "bool" | .int => "int" | .str => "str" | .list => "list" | .dict => "dict" | .tuple => "tuple"
def isBt : Bt → D → Bool
  | .bool, .bl _ => true
  | .int, .bl _ => true
  | .int, .int _ => true
  | .str, .str _ => true
  | .list, .lst _ => true
  | .list, .fzl _ => true
  | .dict, .dct _ => true
  | .tuple, .tup _ => true
  | _, _ => false
def basic : D → Bool
  | .exc _ _ => false | .box _ _ => false | _ => true
def isBf (T : Bt) (d : D) : Option Bool := if basic d then some (isBt T d) else none
theorem isi_bt (T : Bt) : IsiOk K (.type T.nm) (isBf T) := by
  intro d r h
  unfold isBf at h
  cases d <;> cases T <;> simp [basic, isBt] at h <;> subst h <;> simp only [IsiAt, tyN, Bt.nm] <;> exact kit_ty (by decide +kernel)
/-- by the class of an exception -/
def isEx (t : Str → Option Bool) : D → Option Bool
  | .exc C _ => t C
  | _ => none
theorem isi_ex {cv : Value} {t : Str → Option Bool} (h : ∀ C r, t C = some r → ExcC K (He.ga K C) ∧ PySem.W.kitOne K (.ref (He.ga K C)) cv = some r) : IsiOk K cv (isEx t) := by
  intro d r e
  cases d <;> simp [isEx] at e
  exact h _ _ e
theorem RdR.tyX (s : Sub G H) (hb : basic d = true) (h : RdR K G H d v) : TyX K H v (.type (tyN d)) := by
  cases d with
  | non => have := RdR.non h; subst this; exact .base .non
  | bl b => have := RdR.bl h; subst this; exact .base (.bl b)
  | int b => have := RdR.int h; subst this; exact .base (.int b)
  | str z => obtain ⟨rfl, _⟩ := RdR.str h; exact .base (.str z)
  | lst ds => obtain ⟨a, xs, rfl, e, _⟩ := RdR.lst s h; exact .base (.lst e)
  | tup ds => obtain ⟨a, xs, rfl, _, e, _⟩ := RdR.tup s h; exact .base (.tup e)
  | dct ds =>
    obtain ⟨a, xs, rfl, e, _⟩ := RdR.dct s h
    rcases e with e | ⟨o, e⟩
    · exact .base (.dK e)
    · exact .fDict e
  | fzl ds =>
    obtain ⟨a, xs, rfl, e, _⟩ := RdR.fzl s h
    rcases e with (e | ⟨o, e⟩) | ⟨o, its, n, e, c, _⟩
    · exact .base (.lst e)
    · exact .base (.frz e)
    · exact .kList e c
  | exc C fs => cases hb
  | box C fs => cases hb
/-- isinstance(e, c), e a known exception -/
def rIsiH (K : PySem.W.Frag) : List V → Hp → VK → Prop := fun xs H Q => ∃ (a C : Addr) (d : Option Addr) (c : V) (u : Value) (b : Bool), xs = [.ref a, c] ∧ ClsV c u ∧ H a = some (ExH (.ref C) d a) ∧ (d = none ∨ ∃ dd ys, d = some dd ∧ H dd = some (.xd ys)) ∧ ExcC K C ∧ PySem.W.kitOne K (.ref C) u = some b ∧ Q (.bl b) H
theorem xd_obj {P : Program} {w : World} {h : Heap} {dd : Addr} {ys : List (Str × V)} (hx : ObjOk P w H h dd (.xd ys)) : ∃ od, h.get? dd = some od := by
  obtain ⟨mA, hns, hr⟩ := hx
  obtain ⟨od, ho, hl⟩ := lookIn_ns hns
  exact ⟨od, ho⟩
theorem call_isiH : CallR X (.builtin "isinstance") (rIsiH X.K) := by
  intro pins s σ H xs us Q I r h
  obtain ⟨a, C, d, c, u, b, rfl, k, hH, hd, ec, e, q⟩ := h
  obtain ⟨u1, u2, rfl, r1, r2⟩ := vals2 r
  have e2 := k.eq r2
  subst e2
  cases (show u1 = Value.ref a from r1)
  obtain ⟨⟨oe, vs, he, hz, hv⟩, _⟩ := (show ObjOk X.prog X.w H s.heap a (ExH (.ref C) d a) from I.hok a _ hH)
  obtain ⟨cd, hcl, _⟩ := PySem.W.any_some ec.hd
  have J : ∃ od, PySem.W.InstAt s.heap a oe C od := by
    obtain ⟨oc, odd, oda, osl⟩ := oe
    obtain ⟨h1, h2⟩ := hz
    dsimp only at h1 h2 hv
    subst h1 h2 hv
    rcases hd with rfl | ⟨dd, ys, rfl, hdd⟩
    · exact ⟨none, he, rfl, rfl, trivial⟩
    · obtain ⟨od, ho⟩ := xd_obj (I.hok dd _ hdd)
      exact ⟨some od, he, rfl, rfl, ho⟩
  obtain ⟨od, J⟩ := J
  exact PySem.W.kia_one (PySem.W.kitx_exc (by rw [hcl]; rfl) ec.hg ec.hk ec.hs ec.ha ec.hn ec.ht ec.hm) I.kIn J e (fun z => nomatch z) fun tk => ⟨.bl b, H, I.kept (t' := tk) fun _ _ z => z, rfl, q⟩
theorem xh_sub {C : Str} {fs : List (Str × D)} (s : Sub G H) (h : RdR K G H (.exc C fs) v) : ∃ a d, v = .ref a ∧ H a = some (ExH (.ref (He.ga K C)) d a) ∧ ((d = none ∧ fs = []) ∨ ∃ dd ys, d = some dd ∧ H dd = some (.xd ys) ∧ Repf K G fs ys) := by
  have h : Rep K G (.exc C fs) v := by rcases h with h | h <;> exact h
  simp only [Rep] at h
  obtain ⟨a, d, rfl, h1, h2⟩ := h
  have up : ∀ b o, G b = some o → (∀ kvs, o ≠ .dK kvs) → H b = some o := fun b o e n => by
    rcases s b o e with z | ⟨⟨kvs, z⟩, _⟩
    · exact z
    · exact absurd z (n kvs)
  refine ⟨a, d, rfl, up _ _ h1 (fun _ z => by cases z), ?_⟩
  rcases h2 with h2 | ⟨dd, ys, e1, e2, e3⟩
  · exact .inl h2
  · exact .inr ⟨dd, ys, e1, up _ _ e2 (fun _ z => by cases z), e3⟩
def oIsi (f : D → Option Bool) (tb : VTB) : VTE := fun env Q E => tb env (fun b env1 => ∃ d r, b.get env1 = some d ∧ f d = some r ∧ Q (.bl r) env1) E
theorem isi_snd {cv : Value} {c : V} {f : D → Option Bool} {Qh : VK} (hf : IsiOk K cv f) (hc : ClsV c cv) (s : Sub G H) (r : RdR K G H d v) {b : Bool} (e : f d = some b) (q : Qh (.bl b) H) : rIsi K [v, c] H Qh ∨ rIsiH K [v, c] H Qh := by
  have z := hf d b e
  by_cases hb : basic d = true
  · refine .inl ⟨v, c, _, cv, b, rfl, hc, r.tyX s hb, ?_, q⟩
    cases d <;> first | exact z | cases hb
  · cases d <;> simp [basic] at hb
    · obtain ⟨a, d, rfl, h1, h2⟩ := xh_sub s r
      refine .inr ⟨a, _, d, c, cv, b, rfl, hc, h1, ?_, z.1, z.2, q⟩
      rcases h2 with ⟨h2, _⟩ | ⟨dd, ys, e1, e2, _⟩
      · exact .inl h2
      · exact .inr ⟨dd, ys, e1, e2⟩
    · exact z.elim
theorem ve_isi {e : Expr} {y : Str} {p q pos : Pos} {c : V} {cv : Value} {f : D → Option Bool} {tb : VTB} (hg : Gl X "isinstance") (hm : X.mg "isinstance" = none) (hb : VB X W e tb) (pc : PE X (.Name y q) (tC c)) (hc : ClsV c cv) (hf : IsiOk X.K cv f)
    (he : starEach [e, .Name y q] X.env = (false, eval e X.env) :: starEach [.Name y q] X.env := by rfl) (he2 : starEach [.Name y q] X.env = (false, eval (.Name y q) X.env) :: starEach [] X.env := by rfl) (hpl : (backTo pos (starEach [.Name y q] X.env)).any (·.1) = false := by rfl) :
    VE X W (.Call (.Name "isinstance" p) [e, .Name y q] [] pos) (oIsi f tb) := by
  obtain ⟨pb, p1, s1⟩ := hb.ex
  refine ⟨_, pe_callB (call_isi.or call_isiH) hg hm (by rfl) (pa_cons p1 (pa_cons pc pa_nil he2) he) (by decide) (by decide) he hpl, fun F env σ G H Q E Qh k xo ht qq => ?_⟩
  refine s1 F env σ G H _ E _ k xo ht fun b env1 v G1 H1 k1 g1 r1 ⟨d, r, e1, e2, hq⟩ => ?_
  exact isi_snd (Qh := fun x H' => Qh x H') hf hc k1.sub (k1.read e1 r1) e2 (qq _ env1 _ G1 H1 k1 g1 rep_bl hq)
theorem ve_isiT (T : Bt) {e : Expr} {p q pos : Pos} {y : Str} {tb : VTB} (hg : Gl X "isinstance") (hm : X.mg "isinstance" = none) (hb : VB X W e tb) (hgT : Gl X y) (hmT : X.mg y = none) (hv : bootBuiltins y = some (.type T.nm) := by rfl) (hn : y ≠ "__name__" := by decide) (hd : (y == ("__debug__" : Str)) = false := by decide)
    (he : starEach [e, .Name y q] X.env = (false, eval e X.env) :: starEach [.Name y q] X.env := by rfl) (he2 : starEach [.Name y q] X.env = (false, eval (.Name y q) X.env) :: starEach [] X.env := by rfl) (hpl : (backTo pos (starEach [.Name y q] X.env)).any (·.1) = false := by rfl) :
    VE X W (.Call (.Name "isinstance" p) [e, .Name y q] [] pos) (oIsi (isBf T) tb) :=
  ve_isi hg hm hb (pe_bltn hgT hmT hv (v := .ty T.nm) rfl hn hd) (.ty _) (isi_bt T) he he2 hpl
/-- a built-in exception class -/
theorem ve_isiV {t : Str → Option Bool} {e : Expr} {p q pos : Pos} {y : Str} {T : String} {tb : VTB} (hg : Gl X "isinstance") (hm : X.mg "isinstance" = none) (hb : VB X W e tb) (hf : ∀ C r, t C = some r → ExcC X.K (He.ga X.K C) ∧ PySem.W.kitOne X.K (.ref (He.ga X.K C)) (.type T) = some r) (hgT : Gl X y) (hmT : X.mg y = none) (hv : bootBuiltins y = some (.type T) := by rfl) (hn : y ≠ "__name__" := by decide) (hd : (y == ("__debug__" : Str)) = false := by decide)
    (he : starEach [e, .Name y q] X.env = (false, eval e X.env) :: starEach [.Name y q] X.env := by rfl) (he2 : starEach [.Name y q] X.env = (false, eval (.Name y q) X.env) :: starEach [] X.env := by rfl) (hpl : (backTo pos (starEach [.Name y q] X.env)).any (·.1) = false := by rfl) :
    VE X W (.Call (.Name "isinstance" p) [e, .Name y q] [] pos) (oIsi (isEx t) tb) :=
  ve_isi hg hm hb (pe_bltn hgT hmT hv (v := .ty T) rfl hn hd) (.ty _) (isi_ex hf) he he2 hpl
/-- an own class -/
theorem ve_isiC {t : Str → Option Bool} {e : Expr} {p q pos : Pos} {y : Str} {tb : VTB} (hg : Gl X "isinstance") (hm : X.mg "isinstance" = none) (hb : VB X W e tb) (hf : ∀ C r, t C = some r → ExcC X.K (He.ga X.K C) ∧ PySem.W.kitOne X.K (.ref (He.ga X.K C)) (.ref (He.ga X.K y)) = some r) (hgT : Gl X y) (hmT : X.mg y = some (.ref (He.ga X.K y))) (hd : (y == ("__debug__" : Str)) = false := by decide)
    (he : starEach [e, .Name y q] X.env = (false, eval e X.env) :: starEach [.Name y q] X.env := by rfl) (he2 : starEach [.Name y q] X.env = (false, eval (.Name y q) X.env) :: starEach [] X.env := by rfl) (hpl : (backTo pos (starEach [.Name y q] X.env)).any (·.1) = false := by rfl) :
    VE X W (.Call (.Name "isinstance" p) [e, .Name y q] [] pos) (oIsi (isEx t) tb) :=
  ve_isi hg hm hb (pe_glob hgT hmT (v := .ref (He.ga X.K y)) rfl hd) (.own _) (isi_ex hf) he he2 hpl
/-! ### a known exception's field -/
def tXfT (K : PySem.W.Frag) (C : Addr) (f : Str) (te : TE) : TE := fun σ H Q => te σ H fun x H1 => ∃ (a dd : Addr) (fs : List (Str × V)) (v : V), x = .ref a ∧ H1 a = some (ExH (.ref C) (some dd) a) ∧ H1 dd = some (.xd fs) ∧ fs.lookup f = some v ∧ Q v H1
theorem pe_xfT {C : Addr} {e : Expr} {te : TE} {pos : Pos} {n : Str} (T : XfC X.K C) (hno : PySem.W.findIn X.K (.ref C) n = some none) (he : PE X e te) (hb : attributeBase e n X.env (eval e X.env) = eval e X.env := by rfl) :
    PE X (.Attribute e n pos) (tXfT X.K C n te) := by
  refine ⟨fun pins s σ H Q I h => ?_⟩
  refine attr_of hb (thn (he.run pins s σ H _ I h) fun u s1 hh => ?_)
  obtain ⟨x, H1, I1, rx, a, dd, fs, v, ex, eH, ea, l, q⟩ := hh
  subst ex
  obtain rfl : u = Value.ref a := rx
  obtain ⟨⟨oe, vs, he, hz, hd⟩, _⟩ := (show ObjOk X.prog X.w H1 s1.heap a (ExH (.ref C) (some dd) a) from I1.hok a _ eH)
  have hx : ObjOk X.prog X.w H1 s1.heap dd (.xd fs) := I1.hok dd _ ea
  obtain ⟨mA, hns, hr⟩ := hx
  obtain ⟨od, ho, hl⟩ := lookIn_ns hns
  obtain ⟨u, hu, ru⟩ := RelO.some_of (v := v) (o := mA n) (by rw [← l]; exact hr n)
  have J : PySem.W.InstAt s1.heap a oe C (some od) := ⟨he, hz.1, by unfold PySem.W.notCls; rw [hd] <;> rfl, by rw [hz.2]; exact ho⟩
  exact HandSPX.exc_get I1.kIn J T.ga T.gg T.exC (PySem.W.findObj_own T.hdC hno rfl (by rw [hl, hu])) (handed_of ru) ⟨v, H1, I1.tok _, ru, q⟩
def valF (fs : List (Str × D)) (f : Str) : Option D := fs.lookup f
theorem Repf.val {fs : List (Str × D)} {ys : List (Str × V)} {f : Str} (h : Repf K G fs ys) (e : fs.lookup f = some d) : ∃ v, ys.lookup f = some v ∧ Rep K G d v := by
  induction fs generalizing ys with
  | nil => cases e
  | cons c cs ih =>
    obtain ⟨k', d'⟩ := c
    simp only [Repf] at h
    obtain ⟨y, r, rfl, h1, h2⟩ := h
    simp only [List.lookup_cons] at e ⊢
    split at e
    · cases e; exact ⟨y, rfl, h1⟩
    · exact ih h2 e
/-- e.f, e an exception of the class C -/
def oXf (C : Str) (f : Str) (tb : VTB) : VTE := fun env Q E => tb env (fun b env1 => ∃ fs d, b.get env1 = some (.exc C fs) ∧ fs.lookup f = some d ∧ Q d env1) E
theorem ve_xf {C : Str} {e : Expr} {pos : Pos} {n : Str} {tb : VTB} (T : XfC X.K (He.ga X.K C)) (hno : PySem.W.findIn X.K (.ref (He.ga X.K C)) n = some none) (h : VB X W e tb) (hb : attributeBase e n X.env (eval e X.env) = eval e X.env := by rfl) :
    VE X W (.Attribute e n pos) (oXf C n tb) := by
  obtain ⟨pb, p1, s1⟩ := h.ex
  refine ⟨_, pe_xfT T hno p1 hb, fun F env σ G H Q E Qh k xo ht qq => ?_⟩
  refine s1 F env σ G H _ E _ k xo ht fun b env1 v G1 H1 k1 g1 r1 ⟨fs, d, e1, e2, hq⟩ => ?_
  obtain ⟨a, dd, rfl, h1, h2⟩ := xh_sub k1.sub (k1.read e1 r1)
  rcases h2 with ⟨_, z⟩ | ⟨da, ys, rfl, h3, h4⟩
  · subst z; cases e2
  · obtain ⟨v, hv, rv⟩ := h4.val e2
    exact ⟨a, da, ys, v, rfl, h1, h3, hv, qq _ env1 _ G1 H1 k1 g1 rv hq⟩
end
end VL
set_option linter.all false
set_option maxRecDepth 100000
set_option maxHeartbeats 4000000
namespace VL
open PySem PySem.Spec PyProof.Rows L2

section
variable {X : Cx} {W : WX} {K : PySem.W.Frag} {F : FrD} {env env' : En} {σ σ' : L2.St} {G H G' H' : Hp} {d : D} {v : V} {p a : Addr} {vs : List V} {ds : List D} {k : Nat} {o o' : HO}
/-! ### comprehensions over a dict's keys, values -/
def vwD (keys : Bool) (kvs : List (Key × D)) : List D := if keys then kvs.map fun p => keyV p.1 else kvs.map (·.2)
def ItV (keys : Bool) (a : Addr) (od : Obj) (ys : List (Key × V)) : It := if keys then Itk a od ys else Itd a od ys
def iVwM (keys : Bool) (td : TE) : TI := if keys then iKeysM td else iVals td
theorem vwD_len {keys : Bool} {kvs : List (Key × D)} : (vwD keys kvs).length = kvs.length := by cases keys <;> simp [vwD]
theorem itv_at {keys : Bool} {od : Obj} {kvs : List (Key × D)} {ys : List (Key × V)} {G1 : Hp} (rk : Repk K G1 kvs ys) (hf : keys = true → keysFit kvs = true) (hG : G1 a = some (.dK ys)) (hF : F.H a = some (.frz od (.dK ys))) (hW : ¬ F.W a) : ItAt K F G1 (ItV keys a od ys) (vwD keys kvs) := by
  intro F' f1 f2 env σ G H n k g
  have hH : H a = some (.frz od (.dK ys)) := k.keep a _ (f1 a _ hF) fun w => hW (f2 a w)
  have hl := rk.len
  rw [vwD_len]
  cases keys with
  | true =>
    obtain ⟨j1, j2, j3⟩ := itk_ok rk (hf rfl) hG F' env σ G H n k g hH
    refine ⟨j1, j2, fun x H' hy d hd => ?_⟩
    simp only [vwD, if_true, List.getElem?_map, Option.map_eq_some_iff] at hd
    obtain ⟨⟨key, d'⟩, e, rfl⟩ := hd
    obtain ⟨rfl, r⟩ := j3 x H' hy key d' e
    exact ⟨G, Gle.refl G, k, r⟩
  | false =>
    refine ⟨fun h => ⟨hH, by omega⟩, fun h => ⟨hH, by omega⟩, fun x H' hy d hd => ?_⟩
    simp only [vwD, Bool.false_eq_true, if_false, List.getElem?_map, Option.map_eq_some_iff] at hd
    obtain ⟨⟨key, d'⟩, e, rfl⟩ := hd
    obtain ⟨rfl, key', hv⟩ := hy
    obtain ⟨y, hy, r⟩ := rk.key e
    rw [hy] at hv; cases hv
    exact ⟨G, Gle.refl G, k, r.gle g⟩
/-- [elt for x in d.keys() if test], d in slot i, x in slot j -/
def oLcV (keys : Bool) (i j : Nat) (tt : VTT) (te : VTE) : VTO := fun env Q E => ∃ kvs, dctAt env i = some kvs ∧ (keys = true → keysFit kvs = true) ∧ bLc (vwD keys kvs) j tt te (env.set i (.sh (.dct kvs))) Q E
theorem RO.unlock {od : Obj} {ys : List (Key × V)} {r : Sv} {G1 : Hp} (hG : G a = some (.dK ys)) (ro : RO K (F.lock G1 a (.frz od (.dK ys))) env σ G H r v) : RO K F env σ G (upd H a (.dK ys)) r v := by
  cases r with
  | un => cases ro
  | io d => cases ro
  | sh d => exact ro
  | ow d =>
    obtain ⟨o1, o2⟩ := ro
    have hne : ∀ b, OwA d v b → b ≠ a := fun b hb z => by
      have := (o1.there hb).2; subst z
      rw [hG] at this; cases this
    refine ⟨o1.heap fun b hb => by rw [upd_ne (hne b hb)], fun b hb => ⟨?_, (o2 b hb).2⟩⟩
    have z : upd F.H a _ b = none := (o2 b hb).1
    rw [upd_ne (hne b hb)] at z; exact z
theorem RO.frame {F' : FrD} {r : Sv} (h : ∀ b, F'.H b = none → F.H b = none) (ro : RO K F' env σ G H r v) : RO K F env σ G H r v := by
  cases r with
  | un => cases ro
  | io d => cases ro
  | sh d => exact ro
  | ow d => exact ⟨ro.1, fun b hb => ⟨h b (ro.2 b hb).1, (ro.2 b hb).2⟩⟩
/-- the dict is locked already: back from the frame that says so -/
theorem Ok.unlock0 {od : Obj} {ys : List (Key × V)} {env1 : En} {σ1 : L2.St} {G1 H1 : Hp} (k1 : Ok K F env1 σ1 G1 H1) (hG : G1 a = some (.dK ys)) (hH : H1 a = some (.frz od (.dK ys))) (k : Ok K (F.lock G1 a (.frz od (.dK ys))) env σ G H) : Ok K F env σ G H := by
  have hw : ¬ F.W a := k1.notW (by rw [hG]; simp)
  have hHa : H a = some (.frz od (.dK ys)) := k.keep a _ upd_same hw
  refine { sub := k.sub, g0 := k1.g0.trans k.g0, keep := fun b u e w => ?_, new := fun b h1 h2 => ?_, wH := k.wH, wf := k1.wf, len := k.len, slot := fun i s e => ?_, sep := k.sep }
  · by_cases z : b = a
    · subst z
      have := k1.keep b u e w
      rw [hH] at this; cases this; exact hHa
    · refine k.keep b u ?_ w; show upd F.H a _ b = some u; rw [upd_ne z]; exact e
  · refine k.new b ?_ (k1.new b h1 h2)
    show upd F.H a _ b ≠ none
    by_cases z : b = a
    · subst z; rw [upd_same]; simp
    · rw [upd_ne z]; exact h1
  · have h := k.slot i s e
    cases s with
    | un => trivial
    | sh d => exact h
    | ow d =>
      obtain ⟨v, e1, h3, h4⟩ := h
      refine ⟨v, e1, h3, fun b hb => ?_⟩
      have z : upd F.H a _ b = none := h4 b hb
      by_cases y : b = a
      · subst y; rw [upd_same] at z; cases z
      · rw [upd_ne y] at z; exact z
    | io d => exact h
theorem lcv_snd {keys : Bool} {i j : Nat} {tt : VTT} {te : VTE} : SndO K W (lkE (tLc (iVwM keys (tVar i)) (gName j) (lowT K tt) (lowE K te) [j])) (oLcV keys i j tt te) := by
  intro F env σ G H Q E Qh k xo h q
  obtain ⟨kvs, h1, hfit, hb⟩ := h
  obtain ⟨G1, a, ys, g1, k1, e1, hG, rk, hz⟩ := k.dctAt h1
  have hw : ¬ F.W a := k1.notW (by rw [hG]; simp)
  rcases k1.sub a _ hG with hH | ⟨_, od, hH⟩
  · refine .inr ⟨a, .dK ys, hH, trivial, fun od => ?_⟩
    have kL := k1.lock (od := od) hG
    have body := lc_body kL (itv_at rk hfit hG upd_same hw) hb (E := fun _ _ _ => False) (Qh := fun v H' => H' a = some (.frz od (.dK ys)) ∧ Qh v (upd H' a (.dK ys))) fun r env' v G' H' k' g' ro hq => by
      obtain ⟨e2, k2⟩ := k1.unlock hG hH k'
      exact ⟨e2, q r env' v G' _ k2 (g1.trans g') (RO.unlock (k'.g0 _ _ hG) ro) hq⟩
    cases keys with
    | true => exact ⟨.ref a, e1, a, od, ys, rfl, upd_same, body⟩
    | false => exact ⟨.ref a, e1, a, od, ys, rfl, upd_same, body⟩
  · refine .inl ?_
    have kA : Ok K (F.lock G1 a (.frz od (.dK ys))) (env.set i (.sh (.dct kvs))) σ G1 (upd H a (.frz od (.dK ys))) := k1.lock hG
    have eH : upd H a (.frz od (.dK ys)) = H := by
      funext b; by_cases z : b = a
      · subst z; rw [upd_same, hH]
      · rw [upd_ne z]
    rw [eH] at kA
    have body := lc_body kA (itv_at rk hfit hG upd_same hw) hb (E := fun _ _ _ => False) (Qh := Qh) fun r env' v G' H' k' g' ro hq => by
      refine q r env' v G' _ (k1.unlock0 hG hH k') (g1.trans g') (RO.frame (fun b hb => ?_) ro) hq
      have z : upd F.H a _ b = none := hb
      by_cases y : b = a
      · subst y; rw [upd_same] at z; cases z
      · rw [upd_ne y] at z; exact z
    cases keys with
    | true => exact ⟨.ref a, e1, a, od, ys, rfl, hH, body⟩
    | false => exact ⟨.ref a, e1, a, od, ys, rfl, hH, body⟩
theorem vlc_keys {elt tg : Expr} {ifs : List Expr} {scope : Scope} {x y : Str} {i j : Nat} {q apos cpos : Pos} {tt : VTT} {te : VTE} (cx : VC X W k) (pv : PE X (.Name y q) (tVar i)) (ok : BlkOk X.N X.env.scope scope [(x, j)]) (b : VBlk X k tg elt ifs scope j tt te)
    (hbase : attributeBase (.Name y q) "keys" X.env (eval (.Name y q) X.env) = eval (.Name y q) X.env := by rfl) (hline : (apos.endLine == cpos.line) = true := by rfl)
    (hs : ∀ x, foldedSetIterable (.Call (.Attribute (.Name y q) "keys" apos) [] [] cpos) X.env x = pure x := by intro _; rfl) : VLc X W elt tg (.Call (.Attribute (.Name y q) "keys" apos) [] [] cpos) ifs scope (oLcV true i j tt te) := by
  refine ⟨lkE (tLc (iVwM true (tVar i)) (gName j) (lowT X.K tt) (lowE X.K te) [j]), fun pos => pe_lk (pe_lc (own := [(x, j)]) cx.calm cx.nd (pi_keysM pv hbase hline) ok b.hg (fun s H C cl fp => lowT_of (b.ht s H C cl fp (cx.blk s H scope _ fp))) (fun s H C cl fp => lowE_of (b.he s H C cl fp (cx.blk s H scope _ fp))) hs),
    fun m y py pos spos hj hy hsw => ?_, lcv_snd⟩
  exact ps_lk (ps_setLc (own := [(x, j)]) cx.calm cx.nd hj hy hsw (pi_keysM pv hbase hline) ok b.hg (fun s H C cl fp => lowT_of (b.ht s H C cl fp (cx.blk s H scope _ fp))) (fun s H C cl fp => lowE_of (b.he s H C cl fp (cx.blk s H scope _ fp))) hs)
theorem vlc_values {elt tg : Expr} {ifs : List Expr} {scope : Scope} {x y : Str} {i j : Nat} {q apos cpos : Pos} {tt : VTT} {te : VTE} (cx : VC X W k) (pv : PE X (.Name y q) (tVar i)) (ok : BlkOk X.N X.env.scope scope [(x, j)]) (b : VBlk X k tg elt ifs scope j tt te)
    (hbase : attributeBase (.Name y q) "values" X.env (eval (.Name y q) X.env) = eval (.Name y q) X.env := by rfl) (hline : (apos.endLine == cpos.line) = true := by rfl)
    (hs : ∀ x, foldedSetIterable (.Call (.Attribute (.Name y q) "values" apos) [] [] cpos) X.env x = pure x := by intro _; rfl) : VLc X W elt tg (.Call (.Attribute (.Name y q) "values" apos) [] [] cpos) ifs scope (oLcV false i j tt te) := by
  refine ⟨lkE (tLc (iVwM false (tVar i)) (gName j) (lowT X.K tt) (lowE X.K te) [j]), fun pos => pe_lk (pe_lc (own := [(x, j)]) cx.calm cx.nd (pi_values pv hbase hline) ok b.hg (fun s H C cl fp => lowT_of (b.ht s H C cl fp (cx.blk s H scope _ fp))) (fun s H C cl fp => lowE_of (b.he s H C cl fp (cx.blk s H scope _ fp))) hs),
    fun m y py pos spos hj hy hsw => ?_, lcv_snd⟩
  exact ps_lk (ps_setLc (own := [(x, j)]) cx.calm cx.nd hj hy hsw (pi_values pv hbase hline) ok b.hg (fun s H C cl fp => lowT_of (b.ht s H C cl fp (cx.blk s H scope _ fp))) (fun s H C cl fp => lowE_of (b.he s H C cl fp (cx.blk s H scope _ fp))) hs)
end
end VL
set_option linter.all false
set_option maxRecDepth 100000
set_option maxHeartbeats 4000000
namespace VL
open PySem PySem.Spec PyProof.Rows L2

/-! ### the order of texts -/
theorem ltCps_irrefl : ∀ a : List Nat, ltCps a a = false
  | [] => rfl
  | a :: r => by simp [ltCps, ltCps_irrefl r]
theorem ltCps_tri : ∀ a b : List Nat, ltCps a b = false → ltCps b a = false → a = b
  | [], [], _, _ => rfl
  | [], _ :: _, h, _ => by simp [ltCps] at h
  | _ :: _, [], _, h => by simp [ltCps] at h
  | a :: r, b :: t, h, h' => by
    simp only [ltCps, Bool.or_eq_false_iff, decide_eq_false_iff_not, Bool.and_eq_false_iff, beq_eq_false_iff_ne] at h h'
    have e : a = b := by omega
    subst e
    have h2 : ltCps r t = false := h.2.resolve_left fun z => z rfl
    have h3 : ltCps t r = false := h'.2.resolve_left fun z => z rfl
    rw [ltCps_tri r t h2 h3]
theorem ltCps_trans : ∀ a b c : List Nat, ltCps b a = false → ltCps c b = false → ltCps c a = false
  | [], b, c, _, h => by cases c <;> simp [ltCps]
  | a :: r, [], c, h, _ => by simp [ltCps] at h
  | a :: r, b :: t, [], _, h => by simp [ltCps] at h
  | a :: r, b :: t, c :: u, h, h' => by
    simp only [ltCps, Bool.or_eq_false_iff, decide_eq_false_iff_not, Bool.and_eq_false_iff, beq_eq_false_iff_ne] at h h' ⊢
    refine ⟨by omega, ?_⟩
    by_cases e : c = a
    · subst e
      have : b = c := by omega
      subst this
      exact .inr (ltCps_trans r t u (h.2.resolve_left fun z => z rfl) (h'.2.resolve_left fun z => z rfl))
    · exact .inl e
theorem ltCps_asym : ∀ a b : List Nat, ltCps a b = true → ltCps b a = false := fun a b h => by
  cases e : ltCps b a with
  | false => rfl
  | true =>
    exfalso
    have go : ∀ a b : List Nat, ltCps a b = true → ltCps b a = true → False := by
      intro a
      induction a with
      | nil => intro b _ h2; cases b <;> simp [ltCps] at h2
      | cons x r ih =>
        intro b h1 h2
        cases b with
        | nil => simp [ltCps] at h1
        | cons y t =>
          simp only [ltCps, Bool.or_eq_true, decide_eq_true_eq, Bool.and_eq_true, beq_iff_eq] at h1 h2
          rcases h1 with h1 | ⟨h1, h3⟩
          · rcases h2 with h2 | ⟨h2, _⟩ <;> omega
          · rcases h2 with h2 | ⟨_, h4⟩
            · omega
            · exact ih t h3 h4
    exact go a b h e
/-- a is not behind b -/
def leS (a b : Str) : Bool := !ltCps b.cps.toList a.cps.toList
theorem leS_total (a b : Str) : (leS a b || leS b a) = true := by
  unfold leS
  cases h : ltCps b.cps.toList a.cps.toList with
  | false => rfl
  | true => rw [ltCps_asym _ _ h]; rfl
theorem leS_trans (a b c : Str) (h : leS a b = true) (h' : leS b c = true) : leS a c = true := by
  simp only [leS, Bool.not_eq_true'] at h h' ⊢
  exact ltCps_trans _ _ _ h h'
theorem leS_antisymm (a b : Str) (h : leS a b = true) (h' : leS b a = true) : a = b := by
  simp only [leS, Bool.not_eq_true'] at h h'
  have := ltCps_tri _ _ h' h
  cases a; cases b
  simp only [Str.mk.injEq]
  exact Array.ext' this
theorem sortedS_pw : ∀ {l : List Str}, sortedS l = true → l.Pairwise (fun a b => leS a b = true) := by
  have go : ∀ (r : List Str) (x : Str), risingS x r = true → (x :: r).Pairwise (fun a b => leS a b = true) := by
    intro r
    induction r with
    | nil => intro x _; simp
    | cons y r ih =>
      intro x h
      simp only [risingS, Bool.and_eq_true] at h
      have h2 := ih y h.2
      have h1 : leS x y = true := h.1
      refine List.pairwise_cons.mpr ⟨fun z hz => ?_, h2⟩
      rcases List.mem_cons.mp hz with rfl | hz
      · exact h1
      · exact leS_trans x y z h1 ((List.pairwise_cons.mp h2).1 z hz)
  intro l h
  cases l with
  | nil => exact .nil
  | cons x r => exact go r x h
def sortS (l : List Str) : List Str := l.mergeSort leS
theorem sortS_pw (l : List Str) : (sortS l).Pairwise (fun a b => leS a b = true) := List.pairwise_mergeSort leS_trans leS_total l
theorem sortS_perm (l : List Str) : (sortS l).Perm l := List.mergeSort_perm l leS
theorem sortS_unique {l ys : List Str} (h : ys.Perm l) (s : sortedS ys = true) : ys = sortS l :=
  List.Perm.eq_of_pairwise (le := fun a b => leS a b = true) (fun a b _ _ => leS_antisymm a b) (sortedS_pw s) (sortS_pw l) (h.trans (sortS_perm l).symm)
def leI (a b : Int) : Bool := decide (a ≤ b)
def sortI (l : List Int) : List Int := l.mergeSort leI
theorem sortI_pw (l : List Int) : (sortI l).Pairwise (· ≤ ·) := by
  have := List.pairwise_mergeSort (le := leI) (fun a b c h h' => by simp only [leI, decide_eq_true_eq] at *; omega) (fun a b => by simp only [leI, Bool.or_eq_true, decide_eq_true_eq]; omega) l
  exact this.imp fun h => by simpa [leI] using h
theorem sortI_perm (l : List Int) : (sortI l).Perm l := List.mergeSort_perm l leI
theorem sortI_unique {l ys : List Int} (h : ys.Perm l) (s : ys.Pairwise (· ≤ ·)) : ys = sortI l :=
  List.Perm.eq_of_pairwise (le := (· ≤ ·)) (fun a b _ _ h h' => by omega) s (sortI_pw l) (h.trans (sortI_perm l).symm)

section
variable {X : Cx} {W : WX} {K : PySem.W.Frag} {F : FrD} {env env' : En} {σ σ' : L2.St} {G H G' H' : Hp} {d : D} {v : V} {p a : Addr} {vs : List V} {ds : List D} {k : Nat} {o o' : HO}
/-! ### sorted -/
def srt (ds : List D) : Option (List D) := match asStrs ds with
  | some zs => some ((sortS zs).map .str)
  | none => (asInts ds).map fun ns => (sortI ns).map .int
def vSort : List D → Option Sv
  | [d] => (dLs d).bind fun ds => (srt ds).map fun es => .ow (.lst es)
  | _ => none
def rSortA (K : PySem.W.Frag) : List V → Hp → VK → Prop := fun vs H Q => (∃ (a : Addr) (xs : List Str), vs = [V.ref a] ∧ SqL K H a (xs.map V.str) ∧ ∀ (ys : List Str) (p : Addr), ys.Perm xs → sortedS ys = true → H p = none → Q (.ref p) (upd H p (.lst (ys.map V.str)))) ∨
  ∃ (a : Addr) (xs : List Int), vs = [V.ref a] ∧ SqL K H a (xs.map V.int) ∧ ∀ (ys : List Int) (p : Addr), ys.Perm xs → ys.Pairwise (· ≤ ·) → H p = none → Q (.ref p) (upd H p (.lst (ys.map V.int)))
theorem snd_sort : CallSnd K (rSortA K) vSort := by
  intro F env σ G H xs vs res Qh k r e q
  unfold vSort at e
  split at e
  · obtain ⟨ds, en, e⟩ := Option.bind_eq_some_iff.mp e
    obtain ⟨es, e2, rfl⟩ := Option.map_eq_some_iff.mp e
    obtain ⟨v, rfl, rv⟩ := paired1 r
    obtain ⟨p, ys, rfl, h, z, rs⟩ := ls_of rv k.sub en
    unfold srt at e2
    split at e2
    · rename_i zs e3
      cases e2
      obtain ⟨rfl, hz⟩ := strs_of rs e3
      rw [List.length_map] at z
      refine .inl ⟨p, zs, rfl, h, fun ys l hp hs hl => ?_⟩
      have := sortS_unique hp hs; subst this
      obtain ⟨k1, ro⟩ := ro_lst k hl (xs := (sortS zs).map V.str) (by rw [List.length_map, hp.length_eq]; exact z) (reps_strs fun y hy => hz y (hp.mem_iff.mp hy))
      exact q _ _ _ k1 (Gle.refl _) ro
    · obtain ⟨ns, e4, rfl⟩ := Option.map_eq_some_iff.mp e2
      have := ints_of rs e4; subst this
      rw [List.length_map] at z
      refine .inr ⟨p, ns, rfl, h, fun ys l hp hs hl => ?_⟩
      have := sortI_unique hp hs; subst this
      obtain ⟨k1, ro⟩ := ro_lst k hl (xs := (sortI ns).map V.int) (by rw [List.length_map, hp.length_eq]; exact z) reps_ints
      exact q _ _ _ k1 (Gle.refl _) ro
  · cases e
theorem vo_sorted {p pos : Pos} {e : Expr} {ta : VTA} (hg : Gl X "sorted") (hm : X.mg "sorted" = none) (ha : VA X W [e] ta) (he : starEach [e] X.env = (false, eval e X.env) :: starEach [] X.env := by rfl) (hpl : (backTo pos (starEach [] X.env)).any (·.1) = false := by rfl) :
    VO X W (.Call (.Name "sorted" p) [e] [] pos) (oCB vSort ta) := vo_callB (cr_sortedSA.or cr_sortedIA) snd_sort hg hm (by decide +kernel) ha (by decide) (by decide) he hpl
/-! ### views -/
def oVw (keys : Bool) (f : List (Key × D) → Option (List D)) (tb : VTB) : VTO := fun env Q E => tb env (fun b env1 => ∃ kvs es, b.get env1 = some (.dct kvs) ∧ (keys = true → keysFit kvs = true) ∧ f kvs = some es ∧ Q (.ow (.lst es)) env1) E
theorem vwItems_reps {keys : Bool} {kvs : List (Key × D)} {ys : List (Key × V)} (rk : Repk K G kvs ys) (hf : keys = true → keysFit kvs = true) : Reps K G (vwD keys kvs) (vwItems keys ys) := by
  induction kvs generalizing ys with
  | nil => cases (show ys = [] by simpa [Repk] using rk); cases keys <;> simp [vwD, vwItems, Reps]
  | cons c cs ih =>
    obtain ⟨k', d'⟩ := c
    simp only [Repk] at rk
    obtain ⟨y, r, rfl, h1, h2⟩ := rk
    cases keys with
    | true =>
      have hf' := hf rfl
      simp only [keysFit, List.all_cons, Bool.and_eq_true] at hf'
      simp only [vwD, vwItems, if_true, List.map_cons]
      exact .cons (keyV_rep hf'.1) (by simpa [vwD, vwItems] using ih h2 (fun _ => hf'.2))
    | false =>
      simp only [vwD, vwItems, Bool.false_eq_true, if_false, List.map_cons]
      exact .cons h1 (by simpa [vwD, vwItems] using ih h2 (fun h => by cases h))
theorem vo_listVw {keys : Bool} {e : Expr} {te : TE} {tb : VTB} {y : Str} {q p pos apos cpos : Pos} (cx : VC X W k) (hg : Gl X "list") (hm : X.mg "list" = none) (s1 : SndB X.K W te tb) (pv : PVw X keys e (tVw te))
    (he : starEach [e] X.env = (false, eval e X.env) :: starEach [] X.env := by rfl) (hpl : (backTo pos (starEach [] X.env)).any (·.1) = false := by rfl) : VO X W (.Call (.Name "list" p) [e] [] pos) (oVw keys (fun kvs => some (vwD keys kvs)) tb) := by
  refine ⟨_, pe_listVw cx.calm hg hm pv he hpl, fun F env σ G H Q E Qh k xo ht q => ?_⟩
  refine s1 F env σ G H _ E _ k xo ht fun b env1 v G1 H1 k1 g1 r1 ⟨kvs, es, e1, hf, e2, hq⟩ => ?_
  cases e2
  obtain ⟨a, ys, rfl, h1, z, rk⟩ := (k1.read e1 r1).dct k1.sub
  refine ⟨a, ys, rfl, h1, fun p hp => ?_⟩
  obtain ⟨k2, ro⟩ := ro_lst k1 hp (xs := vwItems keys ys) (by rw [vwItems_len]; exact z) (vwItems_reps rk hf)
  exact q _ _ _ _ _ k2 g1 ro hq
/-- list(e.keys()), list(e.values()) -/
theorem vo_listKeys {e : Expr} {tb : VTB} {p pos apos cpos : Pos} (cx : VC X W k) (hg : Gl X "list") (hm : X.mg "list" = none) (hb : VB X W e tb)
    (hbase : attributeBase e "keys" X.env (eval e X.env) = eval e X.env := by rfl) (hline : (apos.endLine == cpos.line) = true := by rfl)
    (he : starEach [.Call (.Attribute e "keys" apos) [] [] cpos] X.env = (false, eval (.Call (.Attribute e "keys" apos) [] [] cpos) X.env) :: starEach [] X.env := by rfl) (hpl : (backTo pos (starEach [] X.env)).any (·.1) = false := by rfl) :
    VO X W (.Call (.Name "list" p) [.Call (.Attribute e "keys" apos) [] [] cpos] [] pos) (oVw true (fun kvs => some (vwD true kvs)) tb) := by
  obtain ⟨te, p1, s1⟩ := hb.ex
  exact vo_listVw cx hg hm s1 (pvw_keys p1 hbase hline) he hpl (y := "") (q := pos) (apos := pos) (cpos := pos)
theorem vo_listValues {e : Expr} {tb : VTB} {p pos apos cpos : Pos} (cx : VC X W k) (hg : Gl X "list") (hm : X.mg "list" = none) (hb : VB X W e tb)
    (hbase : attributeBase e "values" X.env (eval e X.env) = eval e X.env := by rfl) (hline : (apos.endLine == cpos.line) = true := by rfl)
    (he : starEach [.Call (.Attribute e "values" apos) [] [] cpos] X.env = (false, eval (.Call (.Attribute e "values" apos) [] [] cpos) X.env) :: starEach [] X.env := by rfl) (hpl : (backTo pos (starEach [] X.env)).any (·.1) = false := by rfl) :
    VO X W (.Call (.Name "list" p) [.Call (.Attribute e "values" apos) [] [] cpos] [] pos) (oVw false (fun kvs => some (vwD false kvs)) tb) := by
  obtain ⟨te, p1, s1⟩ := hb.ex
  exact vo_listVw cx hg hm s1 (pvw_values p1 hbase hline) he hpl (y := "") (q := pos) (apos := pos) (cpos := pos)
/-- sorted(e.keys()) -/
theorem keyV_strs {kvs : List (Key × D)} {zs : List Str} (h : asStrs (vwD true kvs) = some zs) : kvs.map (·.1) = zs.map Sum.inr := by
  induction kvs generalizing zs with
  | nil => simp [vwD, asStrs] at h; subst h; rfl
  | cons c cs ih =>
    obtain ⟨key, d⟩ := c
    cases key with
    | inl i => simp [vwD, keyV, asStrs] at h
    | inr z =>
      have h : (asStrs (vwD true cs)).map (z :: ·) = some zs := h
      obtain ⟨ys, h3, rfl⟩ := Option.map_eq_some_iff.mp h
      simp only [List.map_cons]
      rw [ih h3]
theorem keyV_ints {kvs : List (Key × D)} {zs : List Int} (h : asInts (vwD true kvs) = some zs) : kvs.map (·.1) = zs.map Sum.inl := by
  induction kvs generalizing zs with
  | nil => simp [vwD, asInts] at h; subst h; rfl
  | cons c cs ih =>
    obtain ⟨key, d⟩ := c
    cases key with
    | inr i => simp [vwD, keyV, asInts] at h
    | inl z =>
      have h : (asInts (vwD true cs)).map (z :: ·) = some zs := h
      obtain ⟨ys, h3, rfl⟩ := Option.map_eq_some_iff.mp h
      simp only [List.map_cons]
      rw [ih h3]
theorem vo_sortKeys {e : Expr} {tb : VTB} {p pos apos cpos : Pos} (cx : VC X W k) (hg : Gl X "sorted") (hm : X.mg "sorted" = none) (hb : VB X W e tb)
    (hbase : attributeBase e "keys" X.env (eval e X.env) = eval e X.env := by rfl) (hline : (apos.endLine == cpos.line) = true := by rfl)
    (he : starEach [.Call (.Attribute e "keys" apos) [] [] cpos] X.env = (false, eval (.Call (.Attribute e "keys" apos) [] [] cpos) X.env) :: starEach [] X.env := by rfl) (hpl : (backTo pos (starEach [] X.env)).any (·.1) = false := by rfl) :
    VO X W (.Call (.Name "sorted" p) [.Call (.Attribute e "keys" apos) [] [] cpos] [] pos) (oVw true (fun kvs => srt (vwD true kvs)) tb) := by
  obtain ⟨te, p1, s1⟩ := hb.ex
  refine ⟨_, pe_sortVw cx.calm hg hm (pvw_keys p1 hbase hline) he hpl, fun F env σ G H Q E Qh k xo ht q => ?_⟩
  refine s1 F env σ G H _ E _ k xo ht fun b env1 v G1 H1 k1 g1 r1 ⟨kvs, es, e1, hf, e2, hq⟩ => ?_
  obtain ⟨a, ys, rfl, h1, z, rk⟩ := (k1.read e1 r1).dct k1.sub
  refine ⟨a, ys, rfl, h1, ?_⟩
  have rs := vwItems_reps rk hf
  have hkeys : ys.map (·.1) = kvs.map (·.1) := by
    clear q rs z h1 r1 e1 hf
    induction kvs generalizing ys es with
    | nil => cases (show ys = [] by simpa [Repk] using rk); rfl
    | cons c cs ih =>
      obtain ⟨k', d'⟩ := c
      simp only [Repk] at rk
      obtain ⟨y, r, rfl, h1, h2⟩ := rk
      have : ∀ {ys : List (Key × V)} {cs : List (Key × D)}, Repk X.K G1 cs ys → ys.map (·.1) = cs.map (·.1) := by
        intro ys cs
        induction cs generalizing ys with
        | nil => intro h; cases (show ys = [] by simpa [Repk] using h); rfl
        | cons c cs ih => intro h; obtain ⟨k', d'⟩ := c; simp only [Repk] at h; obtain ⟨y, r, rfl, h1, h2⟩ := h; simp [ih h2]
      simp [this h2]
  have e2 : srt (vwD true kvs) = some es := e2
  unfold srt at e2
  split at e2
  · rename_i zs e3
    cases e2
    obtain ⟨ei, hz⟩ := strs_of rs e3
    refine .inl ⟨zs, by rw [hkeys]; exact keyV_strs e3, fun xs l hp hs hl => ?_⟩
    have := sortS_unique hp hs; subst this
    have hl2 : zs.length = ys.length := by have := congrArg List.length ei; rw [vwItems_len, List.length_map] at this; exact this.symm
    obtain ⟨k2, ro⟩ := ro_lst k1 hl (xs := (sortS zs).map V.str) (by rw [List.length_map, hp.length_eq, hl2]; exact z) (reps_strs fun y hy => hz y (hp.mem_iff.mp hy))
    exact q _ _ _ _ _ k2 g1 ro hq
  · obtain ⟨ns, e4, rfl⟩ := Option.map_eq_some_iff.mp e2
    have ei := ints_of rs e4
    refine .inr ⟨ns, by rw [hkeys]; exact keyV_ints e4, fun xs l hp hs hl => ?_⟩
    have := sortI_unique hp hs; subst this
    have hl2 : ns.length = ys.length := by have := congrArg List.length ei; rw [vwItems_len, List.length_map] at this; exact this.symm
    obtain ⟨k2, ro⟩ := ro_lst k1 hl (xs := (sortI ns).map V.int) (by rw [List.length_map, hp.length_eq, hl2]; exact z) reps_ints
    exact q _ _ _ _ _ k2 g1 ro hq
end
end VL
set_option linter.all false
set_option maxRecDepth 100000
set_option maxHeartbeats 4000000
namespace VL
open PySem PySem.Spec PyProof.Rows L2

section
variable {X : Cx} {W : WX} {K : PySem.W.Frag} {F : FrD} {env env' : En} {σ σ' : L2.St} {G H G' H' : Hp} {d : D} {v : V} {p a : Addr} {vs : List V} {ds : List D} {k : Nat} {o o' : HO}
/-! ### slices -/
abbrev VTP := En → (Option Int → En → Prop) → XQ → Prop
def SndP (K : PySem.W.Frag) (W : WX) (tp : TO) (t : VTP) : Prop :=
  ∀ F env σ G H Q E Qh, Ok K F env σ G H → XOk K F W E → t env Q E → (∀ b env' G' H', Ok K F env' σ G' H' → Gle G G' → Q b env' → Qh b H') → tp σ H Qh
structure VP (X : Cx) (W : WX) (e : Option Expr) (t : VTP) : Prop where
  ex : ∃ te, PO X e te ∧ SndP X.K W te t
def pNone : VTP := fun env Q _ => Q none env
def pSome (tb : VTB) : VTP := fun env Q E => tb env (fun b env1 => ∃ i, b.get env1 = some (.int i) ∧ Q (some i) env1) E
theorem vp_none : VP X W none pNone := ⟨_, po_none, fun F env σ G H Q E Qh k xo ht q => q none env G H k (Gle.refl _) ht⟩
theorem vp_some {e : Expr} {tb : VTB} (h : VB X W e tb) : VP X W (some e) (pSome tb) := by
  obtain ⟨te, p, s⟩ := h.ex
  refine ⟨_, po_some p, fun F env σ G H Q E Qh k xo ht q => ?_⟩
  refine s F env σ G H _ E _ k xo ht fun b env1 v G1 H1 k1 g1 r1 ⟨i, e1, hq⟩ => ?_
  exact ⟨i, (k1.read e1 r1).int, q (some i) env1 G1 H1 k1 g1 hq⟩
def cutD {α : Type} (xs : List α) (lo hi : Option Int) : List α := (xs.drop (HT.sIx xs.length 0 lo)).take (HT.sIx xs.length xs.length hi - HT.sIx xs.length 0 lo)
theorem Reps.cut {xs : List V} (h : Reps K G ds xs) (lo hi : Option Int) : Reps K G (cutD ds lo hi) (cutV xs lo hi) := by
  unfold cutD cutV
  rw [h.len]
  exact (h.drop _).take _
theorem cut_whole {xs : List D} {lo hi : Option Int} (h : HT.sIx xs.length 0 lo = 0 ∧ HT.sIx xs.length xs.length hi = xs.length) : cutD xs lo hi = xs := by
  unfold cutD; rw [h.1, h.2]; simp
/-- a[lo:hi] -/
def vCut (x : D) (lo hi : Option Int) : Option Sv := match x with
  | .lst ds => some (.ow (.lst (cutD ds lo hi)))
  | .fzl ds => some (.ow (.lst (cutD ds lo hi)))
  | .tup ds => some (.sh (.tup (cutD ds lo hi)))
  | .str z => some (.sh (.str (cutS z lo hi)))
  | _ => none
def oSl (tb : VTB) (tl th : VTP) : VTO := fun env Q E => tb env (fun b env1 => tl env1 (fun lo env2 => th env2 (fun hi env3 => ∃ x r, b.get env3 = some x ∧ vCut x lo hi = some r ∧ Q r env3) E) E) E
theorem vo_slice {e : Expr} {lo hi : Option Expr} {p2 pos : Pos} {tb : VTB} {tl th : VTP} (hb : VB X W e tb) (hl : VP X W lo tl) (hh : VP X W hi th) : VO X W (.Subscript e (.Slice lo hi none p2) pos) (oSl tb tl th) := by
  obtain ⟨pa, p1, s1⟩ := hb.ex
  obtain ⟨pb, p3, s2⟩ := hl.ex
  obtain ⟨pc, p4, s3⟩ := hh.ex
  refine ⟨_, pe_slice ((sl_list.or sl_tupA).or sl_str) p1 p3 p4, fun F env σ G H Q E Qh k xo ht q => ?_⟩
  refine s1 F env σ G H _ E _ k xo ht fun b env1 v G1 H1 k1 g1 r1 ht1 => ?_
  refine s2 F env1 σ G1 H1 _ E _ k1 xo ht1 fun l env2 G2 H2 k2 g2 ht2 => ?_
  refine s3 F env2 σ G2 H2 _ E _ k2 xo ht2 fun u env3 G3 H3 k3 g3 ⟨x, r, e1, e2, hq⟩ => ?_
  have gg := (g1.trans g2).trans g3
  have rx := k3.read e1 (r1.gle (g2.trans g3))
  unfold vCut at e2
  split at e2
  · cases e2
    obtain ⟨a, xs, rfl, h1, z, rs⟩ := rx.lst k3.sub
    refine .inl (.inl ⟨a, xs, rfl, .of h1, fun p hp => ?_⟩)
    obtain ⟨k4, ro⟩ := ro_lst k3 hp (Nat.le_trans (cutV_length xs l u) z) (rs.cut l u)
    exact q _ _ _ _ _ k4 gg ro hq
  · cases e2
    obtain ⟨a, xs, rfl, h1, z, rs⟩ := rx.fzl k3.sub
    refine .inl (.inl ⟨a, xs, rfl, h1, fun p hp => ?_⟩)
    obtain ⟨k4, ro⟩ := ro_lst k3 hp (Nat.le_trans (cutV_length xs l u) z) (rs.cut l u)
    exact q _ _ _ _ _ k4 gg ro hq
  · rename_i ds
    cases e2
    have rx' : Rep X.K G3 (.tup ds) v := by rcases rx with h | h <;> exact h
    obtain ⟨a, xs, rfl, _, h1, z, rs⟩ := rx.tup k3.sub
    refine .inl (.inr ⟨a, xs, rfl, .of h1, fun hw => ?_, fun _ p hp => ?_⟩)
    · rw [rs.len] at hw
      rw [cut_whole hw] at hq
      exact q (.sh (.tup ds)) _ _ _ _ k3 gg rx' hq
    · obtain ⟨k4, g4, rp⟩ := ro_tup k3 hp (Nat.le_trans (cutV_length xs l u) z) (rs.cut l u)
      exact q (.sh (.tup (cutD ds l u))) _ _ _ _ k4 (gg.trans g4) rp hq
  · rename_i z
    cases e2
    obtain ⟨rfl, hz⟩ := rx.str
    exact .inr ⟨z, rfl, hz, q (.sh (.str (cutS z l u))) _ _ _ _ k3 gg (rep_str (K := X.K) (G := G3) (Nat.le_trans (cutS_length z l u) hz)) hq⟩
  · cases e2
/-- xs[::-1] -/
def oRev (tb : VTB) : VTO := fun env Q E => tb env (fun b env1 => ∃ x ds, b.get env1 = some x ∧ dLs x = some ds ∧ Q (.ow (.lst ds.reverse)) env1) E
theorem Reps.rev {xs : List V} (h : Reps K G ds xs) : Reps K G ds.reverse xs.reverse := by
  induction ds generalizing xs with
  | nil => cases (show xs = [] by simpa [Reps] using h); simp [Reps]
  | cons d ds ih =>
    simp only [Reps] at h
    obtain ⟨x, r, rfl, h1, h2⟩ := h
    simp only [List.reverse_cons]
    exact (ih h2).app (.one h1)
theorem vo_rev {e : Expr} {k0 : Nat} {p1 p2 p3 pos : Pos} {tb : VTB} (hb : VB X W e tb) : VO X W (.Subscript e (.Slice none none (some (.UnaryOp .USub (.Constant (.int 1) k0 p1) p2)) p3) pos) (oRev tb) := by
  obtain ⟨pa, p1, s1⟩ := hb.ex
  refine ⟨_, pe_revL p1, fun F env σ G H Q E Qh k xo ht q => ?_⟩
  refine s1 F env σ G H _ E _ k xo ht fun b env1 v G1 H1 k1 g1 r1 ⟨x, ds, e1, e2, hq⟩ => ?_
  obtain ⟨a, xs, rfl, h1, z, rs⟩ := ls_of (k1.read e1 r1) k1.sub e2
  refine ⟨a, xs, rfl, h1, fun p hp => ?_⟩
  obtain ⟨k4, ro⟩ := ro_lst k1 hp (by simpa using z) rs.rev
  exact q _ _ _ _ _ k4 g1 ro hq
/-! ### is of truths -/
def vIsB (x y : D) : Option Sv := match x, y with
  | .bl a, .bl b => some (.sh (.bl (a == b)))
  | _, _ => none
def vNotB (x y : D) : Option Sv := match x, y with
  | .bl a, .bl b => some (.sh (.bl (!(a == b))))
  | _, _ => none
theorem snd_isB : OpSnd K rIsB vIsB := by
  intro F env σ G H x y vx vy res Qh k rx ry e q
  unfold vIsB at e
  split at e
  · cases e
    rw [rx.bl, ry.bl]
    refine ⟨_, _, rfl, rfl, ?_⟩
    have := q (.bl _) G H k (Gle.refl _) ro_bl
    rename_i a b
    have e : decide (a = b) = (a == b) := by cases a <;> cases b <;> rfl
    rw [e]; exact this
  · cases e
theorem snd_notB : OpSnd K rNotB vNotB := by
  intro F env σ G H x y vx vy res Qh k rx ry e q
  unfold vNotB at e
  split at e
  · cases e
    rw [rx.bl, ry.bl]
    refine ⟨_, _, rfl, rfl, ?_⟩
    have := q (.bl _) G H k (Gle.refl _) ro_bl
    rename_i a b
    have e : decide (a = b) = (a == b) := by cases a <;> cases b <;> rfl
    rw [e]; exact this
  · cases e
theorem vo_isB {a b : Expr} {pos : Pos} {ta tb : VTB} (ha : VB X W a ta) (hb : VB X W b tb) : VO X W (.Compare a [.Is] [b] pos) (oOp vIsB ta tb) := vo_cmp op_isBl snd_isB ha hb (nomark _)
theorem vt_isB {a b : Expr} {pos : Pos} {ta tb : VTB} (ha : VB X W a ta) (hb : VB X W b tb) : VT X W (.Compare a [.Is] [b] pos) (tVal (oE (oOp vIsB ta tb))) := vt_cmp op_isBl snd_isB ha hb (nomark _)
theorem vo_notB {a b : Expr} {pos : Pos} {ta tb : VTB} (ha : VB X W a ta) (hb : VB X W b tb) : VO X W (.Compare a [.IsNot] [b] pos) (oOp vNotB ta tb) := vo_cmp op_notBl snd_notB ha hb (nomark _)
theorem vt_notB {a b : Expr} {pos : Pos} {ta tb : VTB} (ha : VB X W a ta) (hb : VB X W b tb) : VT X W (.Compare a [.IsNot] [b] pos) (tVal (oE (oOp vNotB ta tb))) := vt_cmp op_notBl snd_notB ha hb (nomark _)
/-! ### text * int -/
def repZ (z : Str) (n : Nat) : Str := ⟨(List.replicate n z.cps).foldl (· ++ ·) #[]⟩
theorem repZ_len (z : Str) (n : Nat) : (repZ z n).length = n * z.length := by
  have go : ∀ (l : List (Array Nat)) (acc : Array Nat), (l.foldl (· ++ ·) acc).size = acc.size + (l.map (·.size)).sum := by
    intro l
    induction l with
    | nil => intro acc; simp
    | cons x l ih => intro acc; simp only [List.foldl_cons, List.map_cons, List.sum_cons]; rw [ih]; simp; omega
  show ((List.replicate n z.cps).foldl (· ++ ·) #[]).size = n * z.cps.size
  rw [go]; simp
def vMulS (x y : D) : Option Sv := match x, y with
  | .str z, .int n => if decide (2 ≤ n) && decide (n ≤ 1000) && decide (1 ≤ z.length) && decide (z.length ≤ 1000) then some (.sh (.str (repZ z n.toNat))) else none
  | _, _ => none
def rMulS : R2 := fun x y H Q => ∃ (z : Str) (n : Int), x = .str z ∧ y = .int n ∧ 2 ≤ n ∧ n ≤ 1000 ∧ 1 ≤ z.length ∧ z.length ≤ 1000 ∧ Q (.str (repZ z n.toNat)) H
theorem op_mulS : OpR X (binaryOp .Mult) rMulS := by
  intro pins s σ H x y v u Q I rx ry h
  obtain ⟨z, n, rfl, rfl, h1, h2, h3, h4, q⟩ := h
  obtain ⟨t, rfl⟩ := rx
  obtain ⟨t', rfl⟩ := ry
  have hlen : (repZ z n.toNat).length ≤ sizeLine := by
    rw [repZ_len, sizeLine_eq]
    have : n.toNat * z.length ≤ 1000 * 1000 := Nat.mul_le_mul (by omega) h4
    omega
  have hz : z.cps.size = z.length := rfl
  refine PySem.P.mul_str (by rw [decide_eq_false (by omega), decide_eq_false (by omega)]; rfl) (fun _ _ => ?_) (fun _ _ => ?_) ?_
  · have a0 : (9223372036854775807 : Int) / 1000 ≤ (2 ^ 63 - 1) / n := by
      apply Int.le_ediv_of_mul_le (by omega)
      have : (9223372036854775807 : Int) / 1000 * n ≤ 9223372036854775807 / 1000 * 1000 := Int.mul_le_mul_of_nonneg_left h2 (by decide)
      have e : (9223372036854775807 : Int) / 1000 * 1000 ≤ 2 ^ 63 - 1 := by decide
      omega
    have a1 : (1000 : Int) ≤ 9223372036854775807 / 1000 := by decide
    omega
  · have : z.length * n.toNat ≤ 1000 * 1000 := Nat.mul_le_mul h4 (by omega)
    have e := sizeLine_eq
    show decide _ = false
    rw [decide_eq_false_iff_not]; omega
  · rw [if_neg (by omega)]
    have c : (n == 1 || z.length == 0) = false := by
      rw [Bool.or_eq_false_iff]
      exact ⟨beq_eq_false_iff_ne.mpr (by omega), beq_eq_false_iff_ne.mpr (by omega)⟩
    rw [c, if_neg Bool.false_ne_true]
    first
      | exact ⟨hlen, .str (repZ z n.toNat), H, I.tok _, ⟨_, rfl⟩, q⟩
      | exact ⟨.str (repZ z n.toNat), H, I.tok _, ⟨_, rfl⟩, q⟩
theorem snd_mulS : OpSnd K rMulS vMulS := by
  intro F env σ G H x y vx vy res Qh k rx ry e q
  unfold vMulS at e
  split at e
  · split at e
    · rename_i hc
      cases e
      simp only [Bool.and_eq_true, decide_eq_true_eq] at hc
      obtain ⟨⟨⟨c1, c2⟩, c3⟩, c4⟩ := hc
      obtain ⟨e1, _⟩ := rx.str; have e2 := ry.int; subst e1 e2
      refine ⟨_, _, rfl, rfl, c1, c2, c3, c4, q _ G H k (Gle.refl _) (show Rep K G (.str _) (.str _) from rep_str ?_)⟩
      rw [repZ_len, sizeLine_eq]
      rename_i z n _
      have : n.toNat * z.length ≤ 1000 * 1000 := Nat.mul_le_mul (by omega) c4
      omega
    · cases e
  · cases e
theorem vo_mulS {a b : Expr} {pos : Pos} {ta tb : VTB} (ha : VB X W a ta) (hb : VB X W b tb) : VO X W (.BinOp a .Mult b pos) (oOp vMulS ta tb) := vo_op op_mulS snd_mulS ha hb
/-! ### xs.count(x), xs.index(x): flat items -/
def fCnt (x : D) (ys : List D) : Option Sv := match dLs x, ys with
  | some ds, [y] => if flD y && flsD ds then some (.sh (.int ((ds.countP fun d => deq d y : Nat) : Int))) else none
  | _, _ => none
def fIdx (x : D) (ys : List D) : Option Sv := match dLs x, ys with
  | some ds, [y] => if flD y && flsD ds then (ds.findIdx? fun d => deq d y).map fun j => .sh (.int (j : Nat)) else none
  | _, _ => none
def rCnt (K : PySem.W.Frag) : V → List V → Hp → VK → Prop := fun x xs H Q => ∃ (a : Addr) (ys : List V) (y : V), x = V.ref a ∧ xs = [y] ∧ SqL K H a ys ∧ flatV y = true ∧ ys.all flatV = true ∧ Q (.int ((ys.countP fun z => eqV z y : Nat) : Int)) H
theorem cnt_eqU {y : V} {ys : List V} {us : List Value} (rv : Vals ys us) (f : ys.all flatV = true) : us.countP (eqU y) = ys.countP fun z => eqV z y := by
  induction rv with
  | nil => rfl
  | cons r t ih =>
    rw [List.all_cons, Bool.and_eq_true] at f
    rw [List.countP_cons, List.countP_cons, ih f.2, eqU_of r f.1]
theorem mt_cnt : MtR X "list.count" (rCnt X.K) := by
  intro pins s σ H x xs v us Q I rx rxs h
  obtain ⟨a, ys, y, rfl, rfl, hs, fy, fys, q⟩ := h
  cases rx
  cases rxs with
  | cons ry rt =>
    rename_i uy ut
    cases rt
    obtain ⟨its, rv, ⟨⟨cls, dd, data, sl⟩, n, ho, hc, hdn, hd⟩, hlen⟩ := I.list hs
    simp only at hc hd
    subst hc hd
    refine call_meets PySem.F.slot_list_count ⟨_, ho, rfl⟩ PySem.F.entry_list_count (PySem.F.args_list_count_2 _ _) (SeqAt.list_countAt a its.toArray n dd sl uy (eqU y)) ⟨ho, fun u' hu' => mem_eqAt ry fy rv fys u' (by simpa using hu'), ?_⟩
    refine ⟨.int _, H, I.tok _, ⟨_, rfl⟩, ?_⟩
    have ec : its.toArray.toList.countP (eqU y) = ys.countP fun z => eqV z y := cnt_eqU (by simpa using rv) fys
    rw [ec]; exact q
/-- what an item's method gives, by values -/
def MtSnd (K : PySem.W.Frag) (T : String) (r : V → List V → Hp → VK → Prop) (f : D → List D → Option Sv) : Prop :=
  ∀ F env σ G H x xs vx vs res (Qh : VK), Ok K F env σ G H → RdR K G H x vx → Paired (fun v d => RdR K G H d v) vs xs → f x xs = some res → (∀ v G' H', Ok K F env σ G' H' → Gle G G' → RO K F env σ G' H' res v → Qh v H') → r vx vs H Qh
def isTy (T : String) (d : D) : Bool := match d with
  | .lst _ => T == "list" | .fzl _ => T == "list" | .dct _ => false | .tup _ => false | .str _ => T == "str" | .int _ => T == "int" | _ => false
def oMt (T : String) (f : D → List D → Option Sv) (tb : VTB) (ta : VTA) : VTO := fun env Q E => tb env (fun b env1 => (∃ x, b.get env1 = some x ∧ isTy T x = true) ∧ ta env1 (fun bs env2 => ∃ x xs r, b.get env2 = some x ∧ gets env2 bs = some xs ∧ f x xs = some r ∧ Q r env2) E) E
theorem isTy_V {T : String} (s : Sub G H) (r : RdR K G H d v) (h : isTy T d = true) : tyV K T v H := by
  cases d <;> simp [isTy] at h <;> subst h
  · have := r.int; subst this; rfl
  · obtain ⟨rfl, _⟩ := r.str; rfl
  · obtain ⟨a, xs, rfl, e, _⟩ := r.lst s; exact .inl ⟨rfl, xs, .of e⟩
  · obtain ⟨a, xs, rfl, e, _⟩ := r.fzl s; exact .inl ⟨rfl, xs, e⟩
theorem vo_mt {o e : Expr} {es : List Expr} {name : Str} {apos cpos : Pos} {T id : String} {r : V → List V → Hp → VK → Prop} {f : D → List D → Option Sv} {tb : VTB} {ta : VTA}
    (pa : PlainAttrs T) (slot : Slot T name id) (hty : typeOf (.builtin id) = pure (.type "method_descriptor")) (hm : MtR X id r) (hf : MtSnd X.K T r f) (ho : VB X W o tb) (ha : VA X W (e :: es) ta)
    (hbase : attributeBase o name X.env (eval o X.env) = eval o X.env := by rfl)
    (hfew : ((backTo cpos (starEach (e :: es) X.env)).all (fun x => !x.1) && (backToKw cpos (keywordEach [] X.env)).all (fun x => x.1.isSome)
      && decide ((e :: es).length + ([] : List Keyword).length + (if ([] : List Keyword).isEmpty then 0 else 1) < 30)) = true := by rfl)
    (hline : (apos.endLine == cpos.line) = true := by rfl) (hs : starEach (e :: es) X.env = (false, eval e X.env) :: starEach es X.env := by rfl) (hplain : (backTo cpos (starEach es X.env)).any (·.1) = false := by rfl) :
    VO X W (.Call (.Attribute o name apos) (e :: es) [] cpos) (oMt T f tb ta) := by
  obtain ⟨tp, p1, s1⟩ := ho.ex
  obtain ⟨tq, p2, s2⟩ := ha.ex
  refine ⟨_, pe_bm pa slot hty hm p1 p2 hbase hfew hline hs hplain, fun F env σ G H Q E Qh k xo ht q => ?_⟩
  refine s1 F env σ G H _ E _ k xo ht fun b env1 v G1 H1 k1 g1 r1 ⟨⟨x, e1, e2⟩, ht1⟩ => ?_
  refine ⟨isTy_V k1.sub (k1.read e1 r1) e2, s2 F env1 σ G1 H1 _ E _ k1 xo ht1 fun bs env2 vs G2 H2 k2 g2 r2 ⟨x, xs, r, e3, e4, e5, hq⟩ => ?_⟩
  exact hf F env2 σ G2 H2 x xs v vs r Qh k2 (k2.read e3 (r1.gle g2)) (k2.reads r2 e4) e5 fun v G3 H3 k3 g3 ro => q r env2 v G3 H3 k3 ((g1.trans g2).trans g3) ro hq
theorem mtsnd_cnt : MtSnd K "list" (rCnt K) fCnt := by
  intro F env σ G H x xs vx vs res Qh k rx rs e q
  unfold fCnt at e
  split at e
  · rename_i ds y e1
    split at e
    · rename_i hc
      cases e
      simp only [Bool.and_eq_true] at hc
      obtain ⟨v, rfl, rv⟩ := paired1 rs
      obtain ⟨p, ys, rfl, h, z, rr⟩ := ls_of rx k.sub e1
      have hy := flD_rep rv hc.1
      refine ⟨p, ys, v, rfl, rfl, h, flat_of hy hc.1, flats_of rr hc.2, ?_⟩
      have ec : (ys.countP fun z => eqV z v) = ds.countP fun d => deq d y := by
        have f := hc.2
        have f1 := hc.1
        clear q e1 z h rx hc
        induction ds generalizing ys with
        | nil => cases (show ys = [] by simpa [Reps] using rr); rfl
        | cons d ds ih =>
          simp only [Reps] at rr
          obtain ⟨x, r, rfl, h1, h2⟩ := rr
          simp only [flsD, List.all_cons, Bool.and_eq_true] at f
          rw [List.countP_cons, List.countP_cons, ih r h2 f.2, eqV_of h1 hy f.1 f1]
      rw [ec]; exact q _ G H k (Gle.refl _) (show Rep K G (.int _) (.int _) from rep_int)
    · cases e
  · cases e
theorem mtsnd_idx : MtSnd K "list" (rIndex K) fIdx := by
  intro F env σ G H x xs vx vs res Qh k rx rs e q
  unfold fIdx at e
  split at e
  · rename_i ds y e1
    split at e
    · rename_i hc
      simp only [Bool.and_eq_true] at hc
      obtain ⟨j, hj, rfl⟩ := Option.map_eq_some_iff.mp e
      obtain ⟨v, rfl, rv⟩ := paired1 rs
      obtain ⟨p, ys, rfl, h, z, rr⟩ := ls_of rx k.sub e1
      have hy := flD_rep rv hc.1
      obtain ⟨hl, h1, h2⟩ := List.findIdx?_eq_some_iff_getElem.mp hj
      obtain ⟨x, hx, rxx⟩ := rr.get (List.getElem?_eq_getElem hl)
      have hfl : ∀ d ∈ ds, flD d = true := fun d hd => List.all_eq_true.mp hc.2 d hd
      refine ⟨p, ys, v, j, x, rfl, rfl, h, flat_of hy hc.1, flats_of rr hc.2, hx, ?_, fun m z' hm hz => ?_, q _ G H k (Gle.refl _) (show Rep K G (.int _) (.int _) from rep_int)⟩
      · rw [eqV_of rxx hy (hfl _ (List.getElem_mem hl)) hc.1]; exact h1
      · obtain ⟨d, hd, rd⟩ := rr.get' hz
        have hml : m < ds.length := by omega
        rw [List.getElem?_eq_getElem hml] at hd; cases hd
        rw [eqV_of rd hy (hfl _ (List.getElem_mem hml)) hc.1]
        simpa using h2 m hm
    · cases e
  · cases e
theorem vo_count {o e : Expr} {apos cpos : Pos} {tb : VTB} {ta : VTA} (ho : VB X W o tb) (ha : VA X W [e] ta) (hbase : attributeBase o "count" X.env (eval o X.env) = eval o X.env := by rfl)
    (hfew : ((backTo cpos (starEach [e] X.env)).all (fun x => !x.1) && (backToKw cpos (keywordEach [] X.env)).all (fun x => x.1.isSome)
      && decide (([e] : List Expr).length + ([] : List Keyword).length + (if ([] : List Keyword).isEmpty then 0 else 1) < 30)) = true := by rfl)
    (hline : (apos.endLine == cpos.line) = true := by rfl) (hs : starEach [e] X.env = (false, eval e X.env) :: starEach [] X.env := by rfl) :
    VO X W (.Call (.Attribute o "count" apos) [e] [] cpos) (oMt "list" fCnt tb ta) := vo_mt PySem.F.plainAttrs_list PySem.F.slot_list_count PySem.F.type_list_count mt_cnt mtsnd_cnt ho ha hbase hfew hline hs
theorem vo_indexOf {o e : Expr} {apos cpos : Pos} {tb : VTB} {ta : VTA} (ho : VB X W o tb) (ha : VA X W [e] ta) (hbase : attributeBase o "index" X.env (eval o X.env) = eval o X.env := by rfl)
    (hfew : ((backTo cpos (starEach [e] X.env)).all (fun x => !x.1) && (backToKw cpos (keywordEach [] X.env)).all (fun x => x.1.isSome)
      && decide (([e] : List Expr).length + ([] : List Keyword).length + (if ([] : List Keyword).isEmpty then 0 else 1) < 30)) = true := by rfl)
    (hline : (apos.endLine == cpos.line) = true := by rfl) (hs : starEach [e] X.env = (false, eval e X.env) :: starEach [] X.env := by rfl) :
    VO X W (.Call (.Attribute o "index" apos) [e] [] cpos) (oMt "list" fIdx tb ta) := vo_mt PySem.F.plainAttrs_list PySem.F.slot_list_index PySem.F.type_list_index mt_index mtsnd_idx ho ha hbase hfew hline hs
/-! ### {k: v, ..} -/
abbrev VTPs := En → (List (D × D) → En → Prop) → XQ → Prop
def psNil : VTPs := fun env Q _ => Q [] env
def psCons (tk tv : VTE) (r : VTPs) : VTPs := fun env Q E => tk env (fun x env1 => tv env1 (fun y env2 => r env2 (fun ps env3 => Q ((x, y) :: ps) env3) E) E) E
structure VPs (X : Cx) (W : WX) (pos : Pos) (keys : List (Option Expr)) (values : List Expr) (t : VTPs) : Prop where
  ex : ∃ trs, PPs X pos keys values trs ∧ ∀ F env σ G H Q E Qh, Ok X.K F env σ G H → XOk X.K F W E → t env Q E → (∀ ps env' vs G' H', Ok X.K F env' σ G' H' → Gle G G' → Paired (fun (v : V × V) (d : D × D) => Rep X.K G' d.1 v.1 ∧ Rep X.K G' d.2 v.2) vs ps → Q ps env' → Qh vs H') → tPairs trs σ H Qh
theorem vps_nil {pos : Pos} : VPs X W pos [] [] psNil := ⟨_, pps_nil, fun F env σ G H Q E Qh k xo ht q => q [] env [] G H k (Gle.refl _) .nil ht⟩
theorem paired_imp {α β : Type} {R S : α → β → Prop} (h : ∀ a b, R a b → S a b) : ∀ {as : List α} {bs : List β}, Paired R as bs → Paired S as bs
  | _, _, .nil => .nil
  | _, _, .cons r t => .cons (h _ _ r) (paired_imp h t)
theorem vps_cons {pos : Pos} {ek ev : Expr} {ks : List (Option Expr)} {vs : List Expr} {tk tv : VTE} {r : VTPs} (hk : VE X W ek tk) (hv : VE X W ev tv) (hr : VPs X W pos ks vs r) : VPs X W pos (some ek :: ks) (ev :: vs) (psCons tk tv r) := by
  obtain ⟨pa, p1, s1⟩ := hk.ex
  obtain ⟨pb, p2, s2⟩ := hv.ex
  obtain ⟨pc, p3, s3⟩ := hr.ex
  refine ⟨_, pps_cons p1 p2 p3, fun F env σ G H Q E Qh k xo ht q => ?_⟩
  refine s1 F env σ G H _ E _ k xo ht fun x env1 v G1 H1 k1 g1 r1 ht1 => ?_
  refine s2 F env1 σ G1 H1 _ E _ k1 xo ht1 fun y env2 w G2 H2 k2 g2 r2 ht2 => ?_
  refine s3 F env2 σ G2 H2 _ E _ k2 xo ht2 fun ps env3 vs G3 H3 k3 g3 r3 hq => ?_
  exact q _ env3 _ G3 H3 k3 ((g1.trans g2).trans g3) (.cons ⟨r1.gle (g2.trans g3), r2.gle g3⟩ r3) hq
def psKeys : List (D × D) → Option (List (Key × D))
  | [] => some []
  | (x, y) :: r => (keyD x).bind fun key => (psKeys r).map fun l => (key, y) :: l
def mergeD (kvs more : List (Key × D)) : List (Key × D) := more.foldl (fun acc kv => putD acc kv.1 kv.2) kvs
theorem Repk.merge {more kvs : List (Key × D)} {ms ys : List (Key × V)} (h : Repk K G more ms) (h' : Repk K G kvs ys) : Repk K G (mergeD kvs more) (mergeK ys ms) := by
  induction more generalizing ms kvs ys with
  | nil => cases (show ms = [] by simpa [Repk] using h); exact h'
  | cons c cs ih =>
    obtain ⟨key, d⟩ := c
    simp only [Repk] at h
    obtain ⟨y, r, rfl, h1, h2⟩ := h
    exact ih (kvs := putD kvs key d) (ys := putK ys key y) h2 (h'.put key h1)
def oDisp (t : VTPs) : VTO := fun env Q E => t env (fun ps env1 => ∃ l, psKeys ps = some l ∧ l.length ≤ 15 ∧ Q (.ow (.dct (mergeD [] l))) env1) E
theorem vo_disp {pos : Pos} {keys : List (Option Expr)} {values : List Expr} {t : VTPs} (h : VPs X W pos keys values t) (hall : keys.all (·.isSome) = true := by rfl) (hl : keys.length = values.length := by rfl) (h0 : keys ≠ [] := by simp) (h15 : keys.length ≤ 15 := by decide) : VO X W (.Dict keys values pos) (oDisp t) := by
  obtain ⟨trs, p1, s1⟩ := h.ex
  refine ⟨_, pe_disp p1 hall hl h0 h15, fun F env σ G H Q E Qh k xo ht q p hp => ?_⟩
  have hF := k.fnone hp
  have hG := k.gnone hp
  have hW : ¬ F.W p := fun w => k.wH p w hp
  have kA : Ok X.K (F.add p (.dK [])) env σ G (upd H p (.dK [])) := (k.alloc hp).add upd_same hF hG fun i s e => k.notOwned hp i s e
  refine s1 (F.add p (.dK [])) env σ G _ _ E _ kA (xo.add hF hW) ht fun ps env1 vs G1 H1 k1 g1 r1 ⟨l, e1, e2, hq⟩ => ?_
  obtain ⟨ku, h1, _, h2⟩ := k1.unadd hF hW
  have hG1 : G1 p = none := k1.addG (by
    cases e : F.G p with
    | none => rfl
    | some u => rw [k.g0 p u e] at hG; cases hG)
  have conv : ∀ {ps : List (D × D)} {vs : List (V × V)} {l : List (Key × D)}, Paired (fun (v : V × V) (d : D × D) => Rep X.K G1 d.1 v.1 ∧ Rep X.K G1 d.2 v.2) vs ps → psKeys ps = some l → ∃ ys, vs = ys.map (fun kv => (kV kv.1, kv.2)) ∧ Repk X.K G1 l ys := by
    intro ps
    induction ps with
    | nil => intro vs l r e; cases r; cases e; exact ⟨[], rfl, by simp [Repk]⟩
    | cons c cs ih =>
      intro vs l r e
      obtain ⟨x, y⟩ := c
      cases r with
      | cons r t =>
        simp only [psKeys, Option.bind_eq_some_iff, Option.map_eq_some_iff] at e
        obtain ⟨key, ek, l', el, rfl⟩ := e
        obtain ⟨ys, e3, rk⟩ := ih t el
        rename_i a as
        obtain ⟨va, vb⟩ := a
        have : va = kV key := keyD_V (H := H1) (.inl r.1) ek
        subst this
        exact ⟨(key, vb) :: ys, by simp [e3], by simp only [Repk]; exact ⟨vb, ys, rfl, r.2, rk⟩⟩
  obtain ⟨ys, rfl, rk⟩ := conv r1 e1
  have hlen := rk.len
  have rm : Repk X.K G1 (mergeD [] l) (mergeK [] ys) := rk.merge (by simp [Repk])
  have hz : (mergeK [] ys).length ≤ sizeLine := by
    have h1 := length_mergeK ys []
    rw [List.length_nil] at h1
    rw [sizeLine_eq]; omega
  refine ⟨h1, ys, rfl, by omega, ?_⟩
  have k2 : Ok X.K F env1 σ G1 (upd H1 p (.dK (mergeK [] ys))) := ku.touch (by rw [h1]; simp) hF hG1 h2
  exact q (.ow (.dct (mergeD [] l))) env1 (.ref p) G1 _ k2 g1 ⟨⟨p, _, rfl, upd_same, hG1, hz, rm⟩, fun a ha => by cases ha; exact ⟨hF, h2⟩⟩ hq
end
end VL
set_option linter.all false
set_option maxRecDepth 100000
set_option maxHeartbeats 4000000
namespace VL
open PySem PySem.Spec PyProof.Rows L2

section
variable {X : Cx} {W : WX} {K : PySem.W.Frag} {F : FrD} {env env' : En} {σ σ' : L2.St} {G H G' H' : Hp} {d : D} {v : V} {p a : Addr} {vs : List V} {ds : List D} {k : Nat} {o o' : HO}
section
variable {q pos : Pos} {e : Expr} {es : List Expr} {ta : VTA}
theorem vo_sum (cx : VC X W k) (hg : Gl X "sum") (hm : X.mg "sum" = none) (ha : VA X W [e] ta) (he : starEach [e] X.env = (false, eval e X.env) :: starEach [] X.env := by rfl) (hpl : (backTo pos (starEach [] X.env)).any (·.1) = false := by rfl) :
    VO X W (.Call (.Name "sum" q) [e] [] pos) (oCB vSum ta) := vo_callB (cr_sum cx.calm) snd_sum hg hm (by decide +kernel) ha (by decide) (by decide) he hpl
theorem vo_all (cx : VC X W k) (hg : Gl X "all") (hm : X.mg "all" = none) (ha : VA X W [e] ta) (he : starEach [e] X.env = (false, eval e X.env) :: starEach [] X.env := by rfl) (hpl : (backTo pos (starEach [] X.env)).any (·.1) = false := by rfl) :
    VO X W (.Call (.Name "all" q) [e] [] pos) (oCB vAll ta) := vo_callB (cr_all cx.calm) snd_all hg hm (by decide +kernel) ha (by decide) (by decide) he hpl
theorem vo_any (cx : VC X W k) (hg : Gl X "any") (hm : X.mg "any" = none) (ha : VA X W [e] ta) (he : starEach [e] X.env = (false, eval e X.env) :: starEach [] X.env := by rfl) (hpl : (backTo pos (starEach [] X.env)).any (·.1) = false := by rfl) :
    VO X W (.Call (.Name "any" q) [e] [] pos) (oCB vAny ta) := vo_callB (cr_any cx.calm) snd_any hg hm (by decide +kernel) ha (by decide) (by decide) he hpl
theorem vo_max (cx : VC X W k) (hg : Gl X "max") (hm : X.mg "max" = none) (ha : VA X W (e :: es) ta) (he : starEach (e :: es) X.env = (false, eval e X.env) :: starEach es X.env := by rfl) (hpl : (backTo pos (starEach es X.env)).any (·.1) = false := by rfl) :
    VO X W (.Call (.Name "max" q) (e :: es) [] pos) (oCB vMax ta) := vo_callB ((call_max2 cx.calm).or (cr_max cx.calm)) snd_max hg hm (by decide +kernel) ha (by decide) (by decide) he hpl
theorem vo_min (cx : VC X W k) (hg : Gl X "min") (hm : X.mg "min" = none) (ha : VA X W (e :: es) ta) (he : starEach (e :: es) X.env = (false, eval e X.env) :: starEach es X.env := by rfl) (hpl : (backTo pos (starEach es X.env)).any (·.1) = false := by rfl) :
    VO X W (.Call (.Name "min" q) (e :: es) [] pos) (oCB vMin ta) := vo_callB ((call_min2 cx.calm).or (cr_min cx.calm)) snd_min hg hm (by decide +kernel) ha (by decide) (by decide) he hpl
theorem vo_abs (cx : VC X W k) (hg : Gl X "abs") (hm : X.mg "abs" = none) (ha : VA X W [e] ta) (he : starEach [e] X.env = (false, eval e X.env) :: starEach [] X.env := by rfl) (hpl : (backTo pos (starEach [] X.env)).any (·.1) = false := by rfl) :
    VO X W (.Call (.Name "abs" q) [e] [] pos) (oCB vAbs ta) := vo_callB call_abs snd_abs hg hm (by decide +kernel) ha (by decide) (by decide) he hpl
theorem vo_ord (cx : VC X W k) (hg : Gl X "ord") (hm : X.mg "ord" = none) (ha : VA X W [e] ta) (he : starEach [e] X.env = (false, eval e X.env) :: starEach [] X.env := by rfl) (hpl : (backTo pos (starEach [] X.env)).any (·.1) = false := by rfl) :
    VO X W (.Call (.Name "ord" q) [e] [] pos) (oCB vOrd ta) := vo_callB call_ord snd_ord hg hm (by decide +kernel) ha (by decide) (by decide) he hpl
theorem vo_intOf (cx : VC X W k) (hg : Gl X "int") (hm : X.mg "int" = none) (ha : VA X W [e] ta) (he : starEach [e] X.env = (false, eval e X.env) :: starEach [] X.env := by rfl) (hpl : (backTo pos (starEach [] X.env)).any (·.1) = false := by rfl) :
    VO X W (.Call (.Name "int" q) [e] [] pos) (oCB vInt ta) := vo_callTy (call_int1.or call_int_str) snd_int hg hm (by decide +kernel) ha (by decide) (by decide) he hpl
end
/-! ### a def that is never called: any promise of nothing -/
theorem vfn_never {P : Program} {w : World} {mg : Str → Option Value} {base : Heap} {x qual : Str} {params : Arguments} {body : List Stmt} {scope : Scope} {kws : List (Str × V)} {fd : FuncData} {N ps : List Str} {k : Nat} {S : VSp}
    (Fd : FunD K x qual params body scope [] kws (He.ga K x) fd) (gl : mg x = some (.ref (He.ga K x))) (Sc : FnScope N ps scope)
    (hb : ∀ (kV doc pm : Value) (an : Option Addr) (cdv ct : Value) (us : List Value), us.length = ps.length → bindArgs (PySem.W.fnOf x qual params body scope .none kV doc pm an cdv ct) ⟨us, []⟩ = pure (ps.zip us))
    (no : ∀ args QV EV, ¬ S args QV EV) : VFn P w K mg base (k + 1) x ps S :=
  ⟨⟨fd, Fd.ok Sc (fun vs H Q E h => h.1) fun cdv A outer s H vs Q E hr hsp => by
    obtain ⟨_, G, args, QV, EV, _, _, hS, _⟩ := hsp
    exact (no _ _ _ hS).elim, Fd.bindsN hb⟩, Fd.kp, gl⟩
theorem VFn.imp {P : Program} {w : World} {mg : Str → Option Value} {base : Heap} {x : Str} {ps : List Str} {j : Nat} {S S' : VSp} (h : VFn P w K mg base j x ps S) (i : ∀ args QV EV, S' args QV EV → S args QV EV) : VFn P w K mg base j x ps S' := by
  obtain ⟨⟨fd, f, b⟩, kp, gl⟩ := h
  exact ⟨⟨fd, f.imp fun vs H Q E ⟨hl, G, args, QV, EV, k0, ha, hS, hQ, hE⟩ => ⟨hl, G, args, QV, EV, k0, ha, i _ _ _ hS, hQ, hE⟩, b⟩, kp, gl⟩
theorem VFn.mono {P : Program} {w : World} {mg : Str → Option Value} {base : Heap} {x : Str} {ps : List Str} {j k : Nat} {S : VSp} (h : VFn P w K mg base j x ps S) (hj : j ≤ k) : VFn P w K mg base k x ps S := by
  obtain ⟨⟨fd, f, b⟩, kp, gl⟩ := h
  exact ⟨⟨fd, f.mono hj, b⟩, kp, gl⟩
end
end VL
set_option linter.all false
set_option maxRecDepth 100000
set_option maxHeartbeats 4000000
namespace VL
open PySem PySem.Spec PyProof.Rows L2

/-! ### tables of answers by an exception's class -/
def tab (l : List (Str × Bool)) (C : Str) : Option Bool := l.lookup C
theorem tab_mem {l : List (Str × Bool)} {C : Str} {b : Bool} (h : tab l C = some b) : (C, b) ∈ l := by
  unfold tab at h
  induction l with
  | nil => cases h
  | cons p r ih =>
    obtain ⟨x, y⟩ := p
    simp only [List.lookup_cons] at h
    split at h
    · rename_i e
      cases h
      rw [eq_of_beq e]; exact List.mem_cons_self ..
    · exact List.mem_cons_of_mem _ (ih h)
theorem tab_ok {l : List (Str × Bool)} {P : Str → Bool → Prop} (h : ∀ p ∈ l, P p.1 p.2) : ∀ C b, tab l C = some b → P C b := fun C b e => h _ (tab_mem e)
/-- what stands in the written part, seen by Bools -/
def exmB (K : PySem.W.Frag) (l : List (Str × Bool)) (c : Value) : Bool := l.all fun p => decide (PySem.W.exmOne K (.ref (He.ga K p.1)) c = some p.2)
theorem exmB_ok {K : PySem.W.Frag} {l : List (Str × Bool)} {c : Value} (h : exmB K l c = true) : ∀ C b, tab l C = some b → PySem.W.exmOne K (.ref (He.ga K C)) c = some b := tab_ok fun p hp => of_decide_eq_true (List.all_eq_true.mp h p hp)
def excCB (K : PySem.W.Frag) (D : Addr) : Bool := decide (PySem.W.findIn K (.ref D) "__getattribute__" = some (some (.builtin "BaseException.__getattribute__"))) && (decide (PySem.W.findIn K (.ref D) "__getattr__" = some none) && (decide (PySem.W.subIn K (.ref D) (.type "BaseException") = some true) && (PySem.W.hasDictIn K D &&
  (decide (PySem.W.findIn K (.ref D) "__class__" = some (some (.builtin "object.__class__"))) && (decide (PySem.W.specialIn K (.builtin "object.__class__") "__get__" = some (some (.builtin "getset_descriptor.__get__"))) && (decide (PySem.W.takesIn K (.builtin "object.__class__") = some true) && decide (PySem.W.mroIn K D (.type "object") = some true)))))))
theorem excCB_ok {K : PySem.W.Frag} {D : Addr} (h : excCB K D = true) : ExcC K D := by
  simp only [excCB, Bool.and_eq_true, decide_eq_true_eq] at h
  obtain ⟨h1, h2, h3, h4, h5, h6, h7, h8⟩ := h
  exact ⟨h1, h2, h3, h4, h5, h6, h7, h8⟩
def isiB (K : PySem.W.Frag) (l : List (Str × Bool)) (c : Value) : Bool := l.all fun p => excCB K (He.ga K p.1) && decide (PySem.W.kitOne K (.ref (He.ga K p.1)) c = some p.2)
theorem isiB_ok {K : PySem.W.Frag} {l : List (Str × Bool)} {c : Value} (h : isiB K l c = true) : ∀ C r, tab l C = some r → ExcC K (He.ga K C) ∧ PySem.W.kitOne K (.ref (He.ga K C)) c = some r := tab_ok fun p hp => by
  obtain ⟨h1, h2⟩ := Bool.and_eq_true_iff.mp (List.all_eq_true.mp h p hp)
  exact ⟨excCB_ok h1, of_decide_eq_true h2⟩
theorem VCw.wf {X : Cx} {W : WX} {k : Nat} (c : VCw X W k) : VCw X WF k := ⟨⟨c.calm, takes0N, c.po, c.hr, c.nd⟩, takes0, c.pa⟩
theorem VC.wf {X : Cx} {W : WX} {k : Nat} (c : VC X W k) : VC X WF k := ⟨c.calm, takes0N, c.po, c.hr, c.nd⟩
end VL
set_option linter.all false
set_option maxRecDepth 100000
set_option maxHeartbeats 4000000
namespace VL
open PySem PySem.Spec PyProof.Rows L2

/-! ### the end -/
theorem only_ok {K : PySem.W.Frag} {H : Hp} {a : Addr} {ns : List Int} (hn : ns.length ≤ sizeLine) (h : SqL K H a (ns.map V.int)) : Ok K (frOf H H [.sh (.fzl (ns.map .int))] [.ref a]) [.sh (.fzl (ns.map .int))] ([V.ref a].map some) H H where
  sub := fun _ _ e => .inl e
  g0 := Gle.refl H
  keep := fun _ _ e _ => e
  new := fun _ h1 h2 => absurd h2 h1
  wH := fun b ⟨i, d, v, h1, _⟩ => by
    match i, h1 with
    | 0, h1 => simp at h1
    | i + 1, h1 => simp at h1
  wf := fun b ⟨i, d, v, h1, _⟩ => by
    match i, h1 with
    | 0, h1 => simp at h1
    | i + 1, h1 => simp at h1
  len := rfl
  slot := fun i s e => by
    match i, e with
    | 0, e =>
      simp at e; subst e
      exact ⟨.ref a, rfl, by simp only [Rep]; exact ⟨a, _, rfl, h, by simpa using hn, reps_ints⟩⟩
    | i + 1, e => simp at e
  sep := fun i j s t b e1 e2 hij o1 o2 => by
    match i, e1 with
    | 0, e1 => simp at e1; subst e1; cases o1
    | i + 1, e1 => simp at e1
/-- the promise of a law's def: True of every script -/
def SLaw (n : Nat) (B : Nat) : VSp := fun args Q _ => ∃ ns : List Int, args = [.sh (.fzl (ns.map .int))] ∧ ns.length ≤ n ∧ (∀ z ∈ ns, Builtin.Int.intBits z ≤ B) ∧ Q (.sh (.bl true)) []
theorem walk_vl {l : PySem.W.OpenLaw} {k : Nat} {q : Program} {loose : List Str} {XP : (Str → Option Value) → Heap → Prop} {YP : World → Heap → Prop} {d : DefRec} {x : Str}
    (hn : l.most = some 63) (hdf : d.params.defaults = []) (hr : Room k callerA)
    (F : ∀ (w : World) (mg : Str → Option Value) (fa : Addr) (h : Heap), YP w h → h.Ns mainGlobals mg → mg d.name = some (.ref fa) →
      ∃ (K : PySem.W.Frag) (fd : FuncData), K.In h ∧ (∀ (s : Shared) (u : Value), BindsTo s fd ⟨[u], []⟩ [(x, u)]) ∧
        ∀ base : Heap, K.In base → base.Ns mainGlobals mg → FnOk l.prog w K mg base (L2.CX l.prog w) k fa fd [x] (toSp K 1 (SLaw 63 1048576))) :
    PySem.W.WalkO q loose XP YP l.row.toRowW d [] (fun f vs => PySem.call f vs) := by
  refine Att.attach_callB hn hdf fun w s₀ s₁ mg mb fa o pm cd doc a vs ns G Y ho hd hcd hmg hobj hints hlen hbits hg => ?_
  obtain ⟨K, fd, KX, hb, hF⟩ := F w mg fa _ Y G.T.g hmg
  have hl : ns.length ≤ sizeLine := Nat.le_trans hlen (by rw [sizeLine_eq]; omega)
  refine law_call KX G.T.g G.T.b G.T.builtins G.T.nolimit hg hobj hints hl hr hF hb (fun H hO hS => ?_) fun H e s' ⟨_, _, _, _, _, _, _, _, _, _, _, _, h⟩ => h
  refine ⟨rfl, H, _, fun r ds => r = .sh (.bl true), fun _ _ _ => False, only_ok hl hS, rfl, ⟨ns, rfl, hlen, hbits, rfl⟩, ?_, fun _ _ _ _ _ _ _ _ _ _ _ _ h => h.elim⟩
  intro r ds env' σ' v G' H' k' ro g hr
  subst hr
  have : Rep K G' (.bl true) v := ro
  exact rep_blv this
end VL
set_option linter.all false
set_option maxRecDepth 100000
set_option maxHeartbeats 4000000
/-! simp rules for the heap-free readings; printed by gen23.py -/
namespace VL
open PySem PySem.Spec PyProof.Rows L2
/-- something that is there, seen before what follows -/
def bq {α : Type} (o : Option α) (Q : α → Prop) : Prop := ∃ r, o = some r ∧ Q r
@[simp ↓] theorem bq_some {α : Type} {r : α} {Q : α → Prop} : bq (some r) Q = Q r := by simp [bq]
@[simp ↓] theorem bq_none {α : Type} {Q : α → Prop} : bq none Q = False := by simp [bq]
theorem bq_congr {α : Type} {o o' : Option α} {Q : α → Prop} (h : o = o') : bq o Q = bq o' Q := by rw [h]
theorem bqI {α : Type} {o : Option α} {r : α} {Q : α → Prop} (h : o = some r) (q : Q r) : bq o Q := ⟨r, h, q⟩
/-- a call: what is asked of it stays closed -/
def cl (S : VSp) (args : List Sv) (Q : Sv → List D → Prop) (E : Str → List (Str × D) → List D → Prop) : Prop := S args Q E
theorem cl_congr {S : VSp} {args args' : List Sv} {Q : Sv → List D → Prop} {E : Str → List (Str × D) → List D → Prop} (h : args = args') : cl S args Q E = cl S args' Q E := by rw [h]
theorem clI {S : VSp} {args : List Sv} {Q : Sv → List D → Prop} {E : Str → List (Str × D) → List D → Prop} (h : S args Q E) : cl S args Q E := h
def asBl : D → Option Bool
  | .bl b => some b
  | _ => none
def asBlS : Sv → Option Bool
  | .sh (.bl b) => some b
  | _ => none
def asStr : D → Option Str
  | .str z => some z
  | _ => none
def asDct : D → Option (List (Key × D))
  | .dct kvs => some kvs
  | _ => none
def asInt : D → Option Int
  | .int i => some i
  | _ => none
def asInt1 : List D → Option Int
  | [.int i] => some i
  | _ => none
theorem asBl_eq {d : D} {c : Bool} : (asBl d = some c) = (d = .bl c) := by cases d <;> simp [asBl]
theorem asStr_eq {d : D} {c : Str} : (asStr d = some c) = (d = .str c) := by cases d <;> simp [asStr]
theorem asDct_eq {o : Option D} {c : List (Key × D)} : (o.bind asDct = some c) = (o = some (.dct c)) := by
  cases o with
  | none => simp
  | some d => cases d <;> simp [asDct]
theorem asInt_eq {o : Option D} {c : Int} : (o.bind asInt = some c) = (o = some (.int c)) := by
  cases o with
  | none => simp
  | some d => cases d <;> simp [asInt]
theorem asInt1_eq {o : Option (List D)} {c : Int} : (o.bind asInt1 = some c) = (o = some [.int c]) := by
  cases o with
  | none => simp
  | some l =>
    match l with
    | [] => simp [asInt1]
    | [d] => cases d <;> simp [asInt1]
    | d :: e :: r => cases d <;> simp [asInt1]
theorem asBlS_eq {o : Option Sv} {c : Bool} : ((o.bind fun s => asBlS s) = some c) = (o = some (.sh (.bl c))) := by
  cases o with
  | none => simp
  | some s => cases s with
    | sh d => cases d <;> simp [asBlS]
    | _ => simp [asBlS]
@[simp] theorem asBl_bl {b : Bool} : asBl (.bl b) = some b := rfl
@[simp] theorem asBlS_bl {b : Bool} : asBlS (.sh (.bl b)) = some b := rfl
@[simp] theorem asStr_str {b : Str} : asStr (.str b) = some b := rfl
@[simp] theorem asDct_dct {b : List (Key × D)} : asDct (.dct b) = some b := rfl
@[simp] theorem asInt_int {b : Int} : asInt (.int b) = some b := rfl
@[simp] theorem asInt1_int {b : Int} : asInt1 [.int b] = some b := rfl
/-- a name, given away -/
def vq (s : Option Sv) (env : En) (i : Nat) (Q : D → En → Prop) : Prop := match s with
  | some (.sh d) => Q d env
  | some (.ow d) => isIns d = false ∧ Q d (env.set i (.sh d))
  | _ => False
theorem vq_congr {s s' : Option Sv} {env : En} {i : Nat} {Q : D → En → Prop} (h : s = s') : vq s env i Q = vq s' env i Q := by rw [h]
@[simp ↓] theorem vq_sh {d : D} {env : En} {i : Nat} {Q : D → En → Prop} : vq (some (.sh d)) env i Q = Q d env := rfl
@[simp ↓] theorem vq_ow {d : D} {env : En} {i : Nat} {Q : D → En → Prop} : vq (some (.ow d)) env i Q = (isIns d = false ∧ Q d (env.set i (.sh d))) := rfl
def rq (s : Option Sv) (env : En) (i : Nat) (Q : Sv → En → Prop) : Prop := match s with
  | some (.sh d) => Q (.sh d) env
  | some (.ow d) => Q (.ow d) (env.set i .un)
  | _ => False
theorem rq_congr {s s' : Option Sv} {env : En} {i : Nat} {Q : Sv → En → Prop} (h : s = s') : rq s env i Q = rq s' env i Q := by rw [h]
@[simp ↓] theorem rq_sh {d : D} {env : En} {i : Nat} {Q : Sv → En → Prop} : rq (some (.sh d)) env i Q = Q (.sh d) env := rfl
@[simp ↓] theorem rq_ow {d : D} {env : En} {i : Nat} {Q : Sv → En → Prop} : rq (some (.ow d)) env i Q = Q (.ow d) (env.set i .un) := rfl
@[simp ↓] theorem s_seq {t u : VTS} {D : VEnds} {env : En} : sSeq t u D env = t { D with nx := u D } env := rfl
@[simp ↓] theorem s_next {D : VEnds} {env : En} : sNext D env = D.nx env := rfl
@[simp ↓] theorem s_brk {D : VEnds} {env : En} : sBrk D env = D.bk env := rfl
@[simp ↓] theorem s_cnt {D : VEnds} {env : En} : sCnt D env = D.ct env := rfl
@[simp ↓] theorem s_drop {te : VTE} {N : VEnds} {env : En} : sDrop te N env = te env (fun _ env1 => N.nx env1) N.ex := rfl
@[simp ↓] theorem s_ret {to : VTO} {N : VEnds} {env : En} : sRet to N env = to env N.rt N.ex := rfl
@[simp ↓] theorem s_retN {N : VEnds} {env : En} : sRetN N env = N.rt (.sh .non) env := rfl
@[simp ↓] theorem s_if {tt : VTT} {N : VEnds} {env : En} {t u : VTS} : sIf tt t u N env = tt env (fun b env1 => if b = true then t N env1 else u N env1) N.ex := rfl
@[simp ↓] theorem s_set {to : VTO} {N : VEnds} {env : En} {i : Nat} : sSet i to N env = to env (fun r env1 => N.nx (env1.set i r)) N.ex := rfl
@[simp ↓] theorem s_raise {N : VEnds} {env : En} {C : Str} : sRaise C N env = N.ex C [] env := rfl
@[simp ↓] theorem e_o {to : VTO} {env : En} {E : XQ} {Qd : VL.D → En → Prop} : oE to env Qd E = to env (fun r env1 => isIns r.d = false ∧ Qd r.d env1) E := rfl
@[simp ↓] theorem o_e {te : VTE} {env : En} {E : XQ} {Qs : Sv → En → Prop} : eO te env Qs E = te env (fun d env1 => Qs (.sh d) env1) E := rfl
@[simp ↓] theorem b_e {te : VTE} {env : En} {E : XQ} {Qb : Br → En → Prop} : eB te env Qb E = te env (fun d env1 => Qb (.val d) env1) E := rfl
@[simp ↓] theorem e_c {env : En} {E : XQ} {Qd : VL.D → En → Prop} {d : VL.D} : vC d env Qd E = Qd d env := rfl
@[simp ↓] theorem b_var {env : En} {E : XQ} {i : Nat} {Qb : Br → En → Prop} : bVar i env Qb E = ((rd env i).isSome = true ∧ Qb (.slot i) env) := rfl
@[simp ↓] theorem a_nil {env : En} {E : XQ} {Qa : List Br → En → Prop} : aNil env Qa E = Qa [] env := rfl
@[simp ↓] theorem a_cons {tb : VTB} {ta : VTA} {env : En} {E : XQ} {Qa : List Br → En → Prop} : aCons tb ta env Qa E = tb env (fun b env1 => ta env1 (fun bs env2 => Qa (b :: bs) env2) E) E := rfl
@[simp ↓] theorem o_op {tb tc : VTB} {env : En} {E : XQ} {Qs : Sv → En → Prop} {f : VL.D → VL.D → Option Sv} : oOp f tb tc env Qs E = tb env (fun a env1 => tc env1 (fun b env2 => bq (a.get env2) fun x => bq (b.get env2) fun y => bq (f x y) fun r => Qs r env2) E) E := by simp only [oOp, bq, exists_and_left, exists_and_right, and_assoc, asBl_eq, asStr_eq, asDct_eq, asInt_eq, asInt1_eq, asBlS_eq, Prod.exists, cl]
@[simp ↓] theorem o_un {tb : VTB} {env : En} {E : XQ} {Qs : Sv → En → Prop} {f1 : VL.D → Option Sv} : oUn f1 tb env Qs E = tb env (fun a env1 => bq (a.get env1) fun x => bq (f1 x) fun r => Qs r env1) E := by simp only [oUn, bq, exists_and_left, exists_and_right, and_assoc, asBl_eq, asStr_eq, asDct_eq, asInt_eq, asInt1_eq, asBlS_eq, Prod.exists, cl]
@[simp ↓] theorem o_cb {ta : VTA} {env : En} {E : XQ} {Qs : Sv → En → Prop} {fl : List VL.D → Option Sv} : oCB fl ta env Qs E = ta env (fun bs env1 => bq (gets env1 bs) fun xs => bq (fl xs) fun r => Qs r env1) E := by simp only [oCB, bq, exists_and_left, exists_and_right, and_assoc, asBl_eq, asStr_eq, asDct_eq, asInt_eq, asInt1_eq, asBlS_eq, Prod.exists, cl]
@[simp ↓] theorem t_val {te : VTE} {env : En} {E : XQ} {Qt : Bool → En → Prop} : tVal te env Qt E = te env (fun d env1 => bq (asBl d) fun c => Qt c env1) E := by simp only [tVal, bq, exists_and_left, exists_and_right, and_assoc, asBl_eq, asStr_eq, asDct_eq, asInt_eq, asInt1_eq, asBlS_eq, Prod.exists, cl]
@[simp ↓] theorem t_tru {tb : VTB} {env : En} {E : XQ} {Qt : Bool → En → Prop} : tTru tb env Qt E = tb env (fun b env1 => bq (b.get env1) fun d => bq (dTru d) fun c => Qt c env1) E := by simp only [tTru, bq, exists_and_left, exists_and_right, and_assoc, asBl_eq, asStr_eq, asDct_eq, asInt_eq, asInt1_eq, asBlS_eq, Prod.exists, cl]
@[simp ↓] theorem t_and2 {tt tu : VTT} {env : En} {E : XQ} {Qt : Bool → En → Prop} : tAnd2 tt tu env Qt E = tt env (fun c env1 => if c = true then tu env1 Qt E else Qt false env1) E := rfl
@[simp ↓] theorem t_or2 {tt tu : VTT} {env : En} {E : XQ} {Qt : Bool → En → Prop} : tOr2 tt tu env Qt E = tt env (fun c env1 => if c = true then Qt true env1 else tu env1 Qt E) E := rfl
@[simp ↓] theorem t_not2 {tt : VTT} {env : En} {E : XQ} {Qt : Bool → En → Prop} : tNot2 tt env Qt E = tt env (fun c env1 => Qt (!c) env1) E := rfl
@[simp ↓] theorem v_and {te tf : VTE} {env : En} {E : XQ} {Qd : VL.D → En → Prop} : vAndV te tf env Qd E = te env (fun d env1 => bq (asBl d) fun c => if c = true then tf env1 Qd E else Qd (.bl false) env1) E := by simp only [vAndV, bq, exists_and_left, exists_and_right, and_assoc, asBl_eq, asStr_eq, asDct_eq, asInt_eq, asInt1_eq, asBlS_eq, Prod.exists, cl]
@[simp ↓] theorem v_or {te tf : VTE} {env : En} {E : XQ} {Qd : VL.D → En → Prop} : vOrV te tf env Qd E = te env (fun d env1 => bq (asBl d) fun c => if c = true then Qd (.bl true) env1 else tf env1 Qd E) E := by simp only [vOrV, bq, exists_and_left, exists_and_right, and_assoc, asBl_eq, asStr_eq, asDct_eq, asInt_eq, asInt1_eq, asBlS_eq, Prod.exists, cl]
@[simp ↓] theorem v_not {te : VTE} {env : En} {E : XQ} {Qd : VL.D → En → Prop} : vNotV te env Qd E = te env (fun d env1 => bq (asBl d) fun c => Qd (.bl (!c)) env1) E := by simp only [vNotV, bq, exists_and_left, exists_and_right, and_assoc, asBl_eq, asStr_eq, asDct_eq, asInt_eq, asInt1_eq, asBlS_eq, Prod.exists, cl]
@[simp ↓] theorem o_if {to tp : VTO} {tt : VTT} {env : En} {E : XQ} {Qs : Sv → En → Prop} : oIf tt to tp env Qs E = tt env (fun b env1 => if b = true then to env1 Qs E else tp env1 Qs E) E := rfl
@[simp ↓] theorem o_lst {ta : VTA} {env : En} {E : XQ} {Qs : Sv → En → Prop} : oLst ta env Qs E = ta env (fun bs env1 => bq (vals bs) fun ds => fits ds.length = true ∧ Qs (.ow (.lst ds)) env1) E := by simp only [oLst, bq, exists_and_left, exists_and_right, and_assoc, asBl_eq, asStr_eq, asDct_eq, asInt_eq, asInt1_eq, asBlS_eq, Prod.exists, cl]
@[simp ↓] theorem o_tup {ta : VTA} {env : En} {E : XQ} {Qd : VL.D → En → Prop} : oTup ta env Qd E = ta env (fun bs env1 => bq (vals bs) fun ds => fits ds.length = true ∧ Qd (.tup ds) env1) E := by simp only [oTup, bq, exists_and_left, exists_and_right, and_assoc, asBl_eq, asStr_eq, asDct_eq, asInt_eq, asInt1_eq, asBlS_eq, Prod.exists, cl]
@[simp ↓] theorem o_dct0 {env : En} {E : XQ} {Qs : Sv → En → Prop} : oDct0 env Qs E = Qs (.ow (.dct [])) env := rfl
@[simp ↓] theorem o_call {ta : VTA} {env : En} {E : XQ} {Qs : Sv → En → Prop} {S : VSp} {n : Nat} : oCall n S ta env Qs E = ta env (fun bs env1 => bq (sls env1 bs) fun args => args.length = n ∧ (slotsOf bs).Nodup ∧ cl S args (fun r ds => Qs r (wb env1 bs ds)) (fun C fs ds => E C fs (wb env1 bs ds))) E := by simp only [oCall, bq, exists_and_left, exists_and_right, and_assoc, asBl_eq, asStr_eq, asDct_eq, asInt_eq, asInt1_eq, asBlS_eq, Prod.exists, cl]
@[simp ↓] theorem o_isi {tb : VTB} {env : En} {E : XQ} {Qd : VL.D → En → Prop} {fi : VL.D → Option Bool} : oIsi fi tb env Qd E = tb env (fun b env1 => bq (b.get env1) fun d => bq (fi d) fun r => Qd (.bl r) env1) E := by simp only [oIsi, bq, exists_and_left, exists_and_right, and_assoc, asBl_eq, asStr_eq, asDct_eq, asInt_eq, asInt1_eq, asBlS_eq, Prod.exists, cl]
@[simp ↓] theorem o_mut {ta : VTA} {env : En} {E : XQ} {i : Nat} {Qd : VL.D → En → Prop} {T : String} {fm : VL.D → List VL.D → Option (VL.D × VL.D)} : oMut i T fm ta env Qd E = ((bq (own env i) fun d => tyD d = T) ∧ ta env (fun bs env1 => bq (own env1 i) fun d => bq (vals bs) fun xs => bq (fm d xs) fun rd => Qd rd.1 (setS env1 i rd.2)) E) := by simp only [oMut, bq, exists_and_left, exists_and_right, and_assoc, asBl_eq, asStr_eq, asDct_eq, asInt_eq, asInt1_eq, asBlS_eq, Prod.exists, cl]
@[simp ↓] theorem o_mt {tb : VTB} {ta : VTA} {env : En} {E : XQ} {Qs : Sv → En → Prop} {T : String} {fm : VL.D → List VL.D → Option Sv} : oMt T fm tb ta env Qs E = tb env (fun b env1 => (bq (b.get env1) fun x => isTy T x = true) ∧ ta env1 (fun bs env2 => bq (b.get env2) fun x => bq (gets env2 bs) fun xs => bq (fm x xs) fun r => Qs r env2) E) E := by simp only [oMt, bq, exists_and_left, exists_and_right, and_assoc, asBl_eq, asStr_eq, asDct_eq, asInt_eq, asInt1_eq, asBlS_eq, Prod.exists, cl]
@[simp ↓] theorem o_chain {tb tc td : VTB} {env : En} {E : XQ} {Qs : Sv → En → Prop} {f g : VL.D → VL.D → Option Sv} : oChain f g tb tc td env Qs E = tb env (fun a env1 => tc env1 (fun b env2 => bq (a.get env2) fun x => bq (b.get env2) fun y => bq ((f x y).bind fun s => asBlS s) fun c => if c = true then td env2 (fun d env3 => bq (b.get env3) fun y => bq (d.get env3) fun z => bq (g y z) fun r => Qs r env3) E else Qs (.sh (.bl false)) env2) E) E := by simp only [oChain, bq, exists_and_left, exists_and_right, and_assoc, asBl_eq, asStr_eq, asDct_eq, asInt_eq, asInt1_eq, asBlS_eq, Prod.exists, cl]
@[simp ↓] theorem o_vw {tb : VTB} {env : En} {E : XQ} {Qs : Sv → En → Prop} {keys : Bool} {fk : List (Key × VL.D) → Option (List VL.D)} : oVw keys fk tb env Qs E = tb env (fun b env1 => bq ((b.get env1).bind asDct) fun kvs => (keys = true → keysFit kvs = true) ∧ bq (fk kvs) fun es => Qs (.ow (.lst es)) env1) E := by simp only [oVw, bq, exists_and_left, exists_and_right, and_assoc, asBl_eq, asStr_eq, asDct_eq, asInt_eq, asInt1_eq, asBlS_eq, Prod.exists, cl]
@[simp ↓] theorem i_ls {te : VTE} {env : En} {E : XQ} {Qi : List VL.D → En → Prop} : iLs te env Qi E = te env (fun d env1 => bq (dLs d) fun ds => Qi ds env1) E := by simp only [iLs, bq, exists_and_left, exists_and_right, and_assoc, asBl_eq, asStr_eq, asDct_eq, asInt_eq, asInt1_eq, asBlS_eq, Prod.exists, cl]
@[simp ↓] theorem i_ts {te : VTE} {env : En} {E : XQ} {Qi : List VL.D → En → Prop} : iTs te env Qi E = te env (fun d env1 => bq (dTs d) fun ds => Qi ds env1) E := by simp only [iTs, bq, exists_and_left, exists_and_right, and_assoc, asBl_eq, asStr_eq, asDct_eq, asInt_eq, asInt1_eq, asBlS_eq, Prod.exists, cl]
@[simp ↓] theorem i_st {te : VTE} {env : En} {E : XQ} {Qi : List VL.D → En → Prop} : iSt te env Qi E = te env (fun d env1 => bq (asStr d) fun z => Qi (sgs z) env1) E := by simp only [iSt, bq, exists_and_left, exists_and_right, and_assoc, asBl_eq, asStr_eq, asDct_eq, asInt_eq, asInt1_eq, asBlS_eq, Prod.exists, cl]
@[simp ↓] theorem i_rg {ta : VTA} {env : En} {E : XQ} {Qi : List VL.D → En → Prop} : iRg ta env Qi E = ta env (fun bs env1 => bq ((gets env1 bs).bind asInt1) fun n => (-(2 ^ 62) ≤ n ∧ n < 2 ^ 62) ∧ Qi ((List.range n.toNat).map fun i => .int (i : Nat)) env1) E := by simp only [iRg, bq, exists_and_left, exists_and_right, and_assoc, asBl_eq, asStr_eq, asDct_eq, asInt_eq, asInt1_eq, asBlS_eq, Prod.exists, cl]
@[simp ↓] theorem o_lc {te : VTE} {tt : VTT} {env : En} {E : XQ} {i : Nat} {Qs : Sv → En → Prop} {ti : VTI} : oLc ti i tt te env Qs E = ti env (fun ds env1 => bLc ds i tt te env1 Qs E) E := rfl
@[simp ↓] theorem s_sto {tb : VTB} {te : VTE} {N : VEnds} {env : En} {i : Nat} : sSto i te tb N env = te env (fun x env1 => (rd env1 i).isSome = true ∧ tb env1 (fun b env2 => bq (own env2 i) fun c => bq (b.get env2) fun y => bq (setD c y x) fun d1 => N.nx (setS env2 i d1)) N.ex) N.ex := by simp only [sSto, bq, exists_and_left, exists_and_right, and_assoc, asBl_eq, asStr_eq, asDct_eq, asInt_eq, asInt1_eq, asBlS_eq, Prod.exists, cl]
/-- a loop over ds, x in slot i -/
def lpQ (ds : List D) (i : Nat) (t : VTS) (N : VEnds) (env1 : En) : Prop := ∃ I : Nat → En → Prop, I 0 env1 ∧ (∀ n d env, ds[n]? = some d → I n env → t { N with nx := I (n + 1), ct := I (n + 1), bk := N.nx } (env.set i (.sh d))) ∧ ∀ env, I ds.length env → N.nx env
@[simp ↓] theorem s_for {ti : VTI} {i : Nat} {t : VTS} {N : VEnds} {env : En} : sFor ti i t N env = ti env (fun ds env1 => lpQ ds i t N env1) N.ex := rfl
def tryEx (m : Str → Option Bool) (i : Nat) (u : VTS) (N : VEnds) : XQ := fun C fs env1 => match m C with
  | some true => u { nx := fun e => N.nx (e.set i .un), rt := N.rt, bk := fun e => N.bk (e.set i .un), ct := fun e => N.ct (e.set i .un) } (env1.set i (.sh (.exc C fs)))
  | some false => N.ex C fs env1
  | none => False
@[simp ↓] theorem s_try {m : Str → Option Bool} {i : Nat} {t u : VTS} {N : VEnds} {env : En} : sTryAs m i t u N env = t { N with ex := tryEx m i u N } env := rfl
theorem tryEx_yes {m : Str → Option Bool} {i : Nat} {u : VTS} {N : VEnds} {C : Str} {fs : List (Str × D)} {env1 : En} (h : m C = some true) : tryEx m i u N C fs env1 = u { nx := fun e => N.nx (e.set i .un), rt := N.rt, bk := fun e => N.bk (e.set i .un), ct := fun e => N.ct (e.set i .un) } (env1.set i (.sh (.exc C fs))) := by simp only [tryEx, h]
@[simp ↓] theorem o_lcv {te : VTE} {tt : VTT} {env : En} {E : XQ} {i : Nat} {Qs : Sv → En → Prop} {keys : Bool} {j : Nat} : oLcV keys i j tt te env Qs E = (bq (dctAt env i) fun kvs => (keys = true → keysFit kvs = true) ∧ bLc (vwD keys kvs) j tt te (env.set i (.sh (.dct kvs))) Qs E) := by simp only [oLcV, bq, exists_and_left, exists_and_right, and_assoc, asBl_eq, asStr_eq, asDct_eq, asInt_eq, asInt1_eq, asBlS_eq, Prod.exists, cl]
@[simp ↓] theorem p_none {env : En} {E : XQ} {Qp : Option Int → En → Prop} : pNone env Qp E = Qp none env := rfl
@[simp ↓] theorem p_some {tb : VTB} {env : En} {E : XQ} {Qp : Option Int → En → Prop} : pSome tb env Qp E = tb env (fun b env1 => bq ((b.get env1).bind asInt) fun i => Qp (some i) env1) E := by simp only [pSome, bq, exists_and_left, exists_and_right, and_assoc, asBl_eq, asStr_eq, asDct_eq, asInt_eq, asInt1_eq, asBlS_eq, Prod.exists, cl]
@[simp ↓] theorem o_sl {tb : VTB} {env : En} {E : XQ} {Qs : Sv → En → Prop} {tl th : VTP} : oSl tb tl th env Qs E = tb env (fun b env1 => tl env1 (fun lo env2 => th env2 (fun hi env3 => bq (b.get env3) fun x => bq (vCut x lo hi) fun r => Qs r env3) E) E) E := by simp only [oSl, bq, exists_and_left, exists_and_right, and_assoc, asBl_eq, asStr_eq, asDct_eq, asInt_eq, asInt1_eq, asBlS_eq, Prod.exists, cl]
@[simp ↓] theorem ps_nil {env : En} {E : XQ} {Qp : List (VL.D × VL.D) → En → Prop} : psNil env Qp E = Qp [] env := rfl
@[simp ↓] theorem ps_cons {te tf : VTE} {env : En} {E : XQ} {Qp : List (VL.D × VL.D) → En → Prop} {tr : VTPs} : psCons te tf tr env Qp E = te env (fun x env1 => tf env1 (fun y env2 => tr env2 (fun ps env3 => Qp ((x, y) :: ps) env3) E) E) E := rfl
@[simp ↓] theorem o_disp {env : En} {E : XQ} {Qs : Sv → En → Prop} {tr : VTPs} : oDisp tr env Qs E = tr env (fun ps env1 => bq (psKeys ps) fun l => l.length ≤ 15 ∧ Qs (.ow (.dct (mergeD [] l))) env1) E := by simp only [oDisp, bq, exists_and_left, exists_and_right, and_assoc, asBl_eq, asStr_eq, asDct_eq, asInt_eq, asInt1_eq, asBlS_eq, Prod.exists, cl]
@[simp ↓] theorem t_yes {env : En} {E : XQ} {Qt : Bool → En → Prop} : tYes2 env Qt E = Qt true env := rfl
@[simp ↓] theorem be_nx {args : List Sv} {QV : Sv → List D → Prop} {EV : Str → List (Str × D) → List D → Prop} {env : En} : (bodyEnds args QV EV).nx env = (bq (ioGet args env) fun ds => QV (.sh .non) ds) := by simp only [bodyEnds, bq, exists_and_left, exists_and_right, and_assoc, asBl_eq, asStr_eq, asDct_eq, asInt_eq, asInt1_eq, asBlS_eq, Prod.exists, cl]
@[simp ↓] theorem be_rt {args : List Sv} {QV : Sv → List D → Prop} {EV : Str → List (Str × D) → List D → Prop} {env : En} {r : Sv} : (bodyEnds args QV EV).rt r env = (bq (ioGet args env) fun ds => QV r ds) := by simp only [bodyEnds, bq, exists_and_left, exists_and_right, and_assoc, asBl_eq, asStr_eq, asDct_eq, asInt_eq, asInt1_eq, asBlS_eq, Prod.exists, cl]
@[simp ↓] theorem be_ex {args : List Sv} {QV : Sv → List D → Prop} {EV : Str → List (Str × D) → List D → Prop} {env : En} {C : Str} {fs : List (Str × D)} : (bodyEnds args QV EV).ex C fs env = (bq (ioGet args env) fun ds => EV C fs ds) := by simp only [bodyEnds, bq, exists_and_left, exists_and_right, and_assoc, asBl_eq, asStr_eq, asDct_eq, asInt_eq, asInt1_eq, asBlS_eq, Prod.exists, cl]
@[simp] theorem isIns_non  : isIns .non = false := rfl
@[simp] theorem isIns_bl {b : Bool} : isIns (.bl b) = false := rfl
@[simp] theorem isIns_int {i : Int} : isIns (.int i) = false := rfl
@[simp] theorem isIns_str {z : Str} : isIns (.str z) = false := rfl
@[simp] theorem isIns_lst {ds : List D} : isIns (.lst ds) = false := rfl
@[simp] theorem isIns_tup {ds : List D} : isIns (.tup ds) = false := rfl
@[simp] theorem isIns_fzl {ds : List D} : isIns (.fzl ds) = false := rfl
@[simp] theorem isIns_dct {kvs : List (Key × D)} : isIns (.dct kvs) = false := rfl
@[simp] theorem isIns_exc {C : Str} {fs : List (Str × D)} : isIns (.exc C fs) = false := rfl
@[simp] theorem svd_sh {d : D} : (Sv.sh d).d = d := rfl
@[simp] theorem svr_sh {d : D} : (Sv.sh d).rd = some d := rfl
@[simp] theorem svd_ow {d : D} : (Sv.ow d).d = d := rfl
@[simp] theorem svr_ow {d : D} : (Sv.ow d).rd = some d := rfl
@[simp] theorem svd_io {d : D} : (Sv.io d).d = d := rfl
@[simp] theorem svr_io {d : D} : (Sv.io d).rd = some d := rfl
@[simp] theorem br_val {env : En} {d : D} : (Br.val d).get env = some d := rfl
@[simp] theorem br_slot {env : En} {i : Nat} : (Br.slot i).get env = rd env i := rfl
@[simp] theorem gets_nil {env : En} : gets env [] = some [] := rfl
@[simp] theorem gets_cons {env : En} {b : Br} {bs : List Br} : gets env (b :: bs) = (b.get env).bind fun d => (gets env bs).map fun ds => d :: ds := rfl
@[simp] theorem vals_nil  : vals [] = some [] := rfl
@[simp] theorem vals_cons {d : D} {bs : List Br} : vals (.val d :: bs) = (vals bs).map (d :: ·) := rfl
@[simp] theorem slo_nil  : slotsOf [] = [] := rfl
@[simp] theorem slo_val {d : D} {bs : List Br} : slotsOf (.val d :: bs) = slotsOf bs := rfl
@[simp] theorem slo_slot {i : Nat} {bs : List Br} : slotsOf (.slot i :: bs) = i :: slotsOf bs := rfl
@[simp] theorem sls_nil {env : En} : sls env [] = some [] := rfl
@[simp] theorem sls_val {env : En} {d : D} {bs : List Br} : sls env (.val d :: bs) = (sls env bs).map (.sh d :: ·) := rfl
@[simp] theorem sls_slot {env : En} {i : Nat} {bs : List Br} : sls env (.slot i :: bs) = (match env[i]? with | some (.ow d) => if isMut d then (sls env bs).map (.io d :: ·) else none | some (.io d) => if isMut d then (sls env bs).map (.io d :: ·) else none | _ => none) := rfl
@[simp] theorem wb_nil {env : En} {ds : List D} : wb env [] ds = env := rfl
@[simp] theorem wb_val {env : En} {d : D} {bs : List Br} {ds : List D} : wb env (.val d :: bs) ds = wb env bs ds := rfl
@[simp] theorem wb_slot {env : En} {i : Nat} {d : D} {bs : List Br} {ds : List D} : wb env (.slot i :: bs) (d :: ds) = (wb env bs ds).set i (retag env[i]? d) := rfl
@[simp] theorem retag_io {d e : D} : retag (some (.io d)) e = .io e := rfl
@[simp] theorem retag_ow {d e : D} : retag (some (.ow d)) e = .ow e := rfl
@[simp] theorem keep_sh {d : D} : keepS (.sh d) = .sh d := rfl
@[simp] theorem keep_ow {d : D} : keepS (.ow d) = .un := rfl
@[simp] theorem keep_un  : keepS .un = .un := rfl
@[simp] theorem keep_io {d : D} : keepS (.io d) = .un := rfl
@[simp] theorem io_nil {env : En} : ioGet [] env = some [] := rfl
@[simp] theorem io_io {a d : D} {as : List Sv} {env : En} : ioGet (.io a :: as) (.io d :: env) = (if isMut d = true then (ioGet as env).map (d :: ·) else none) := rfl
@[simp] theorem io_sh {a : D} {as : List Sv} {s : Sv} {env : En} : ioGet (.sh a :: as) (s :: env) = ioGet as env := rfl
@[simp] theorem rd_def {env : En} {i : Nat} : rd env i = (env[i]?).bind Sv.rd := rfl
@[simp] theorem mut_lst {ds : List D} : isMut (.lst ds) = true := rfl
@[simp] theorem mut_dct {kvs : List (Key × D)} : isMut (.dct kvs) = true := rfl
@[simp] theorem tru_bl {b : Bool} : dTru (.bl b) = some b := rfl
@[simp] theorem tru_lst {ds : List D} : dTru (.lst ds) = some (!ds.isEmpty) := rfl
@[simp] theorem tru_fzl {ds : List D} : dTru (.fzl ds) = some (!ds.isEmpty) := rfl
@[simp] theorem tru_tup {ds : List D} : dTru (.tup ds) = some (!ds.isEmpty) := rfl
@[simp] theorem tru_dct {ds : List (Key × D)} : dTru (.dct ds) = some (!ds.isEmpty) := rfl
@[simp] theorem add_int {i j : Int} : vAdd (.int i) (.int j) = some (.sh (.int (i + j))) := rfl
@[simp] theorem sub_int {i j : Int} : vSub (.int i) (.int j) = some (.sh (.int (i - j))) := rfl
@[simp] theorem neg_int {i : Int} : vNeg (.int i) = some (.sh (.int (-i))) := rfl
@[simp] theorem mod_int {i j : Int} (h : 0 < j) : vMod (.int i) (.int j) = some (.sh (.int (i % j))) := by simp [vMod, h]
@[simp] theorem div_int {i j : Int} (h : 0 < j) (h2 : j < 1073741824) : vDiv (.int i) (.int j) = some (.sh (.int (i / j))) := by simp [vDiv, h, h2]
@[simp] theorem mul_intL {i j : Int} (h : -18446744073709551616 < i) (h2 : i < 18446744073709551616) : vMul (.int i) (.int j) = some (.sh (.int (i * j))) := by simp [vMul, h, h2]
@[simp] theorem mul_intR {i j : Int} (h : -18446744073709551616 < j) (h2 : j < 18446744073709551616) : vMul (.int i) (.int j) = some (.sh (.int (i * j))) := by simp [vMul, h, h2]
@[simp] theorem mul_lst {a : List D} {n : Nat} (h : a.length * n ≤ 16777216) (h2 : n < 1000000000) : vMul (.lst a) (.int n) = some (.ow (.lst (List.replicate n a).flatten)) := by simp [vMul, fits, h, show (n : Int) < 9223372036854775808 by omega, show -9223372036854775808 ≤ (n : Int) by omega]
@[simp] theorem add_lst {a b : List D} (h : a.length + b.length ≤ 16777216) : vAdd (.lst a) (.lst b) = some (.ow (.lst (a ++ b))) := by simp [vAdd, fits, h]
@[simp] theorem add_str {a b : Str} (h : a.length + b.length ≤ 16777216) : vAdd (.str a) (.str b) = some (.sh (.str (a ++ b))) := by simp [vAdd, fits, h]
@[simp] theorem cLt_int {i j : Int} : vLt (.int i) (.int j) = some (.sh (.bl (decide (i < j)))) := by simp [vLt, vCmpI]
@[simp] theorem cLe_int {i j : Int} : vLe (.int i) (.int j) = some (.sh (.bl (decide (i ≤ j)))) := by simp [vLe, vCmpI]
@[simp] theorem cGt_int {i j : Int} : vGt (.int i) (.int j) = some (.sh (.bl (decide (j < i)))) := by simp [vGt, vCmpI]
@[simp] theorem cGe_int {i j : Int} : vGe (.int i) (.int j) = some (.sh (.bl (decide (j ≤ i)))) := by simp [vGe, vCmpI]
@[simp] theorem isN_non  : vIsN .non .non = some (.sh (.bl true)) := rfl
@[simp] theorem notN_non  : vNotN .non .non = some (.sh (.bl false)) := rfl
@[simp] theorem isN_bl {b : Bool} : vIsN (.bl b) .non = some (.sh (.bl false)) := rfl
@[simp] theorem notN_bl {b : Bool} : vNotN (.bl b) .non = some (.sh (.bl true)) := rfl
@[simp] theorem isN_int {i : Int} : vIsN (.int i) .non = some (.sh (.bl false)) := rfl
@[simp] theorem notN_int {i : Int} : vNotN (.int i) .non = some (.sh (.bl true)) := rfl
@[simp] theorem isN_str {z : Str} : vIsN (.str z) .non = some (.sh (.bl false)) := rfl
@[simp] theorem notN_str {z : Str} : vNotN (.str z) .non = some (.sh (.bl true)) := rfl
@[simp] theorem isN_lst {ds : List D} : vIsN (.lst ds) .non = some (.sh (.bl false)) := rfl
@[simp] theorem notN_lst {ds : List D} : vNotN (.lst ds) .non = some (.sh (.bl true)) := rfl
@[simp] theorem isN_tup {ds : List D} : vIsN (.tup ds) .non = some (.sh (.bl false)) := rfl
@[simp] theorem notN_tup {ds : List D} : vNotN (.tup ds) .non = some (.sh (.bl true)) := rfl
@[simp] theorem isN_fzl {ds : List D} : vIsN (.fzl ds) .non = some (.sh (.bl false)) := rfl
@[simp] theorem notN_fzl {ds : List D} : vNotN (.fzl ds) .non = some (.sh (.bl true)) := rfl
@[simp] theorem isN_dct {kvs : List (Key × D)} : vIsN (.dct kvs) .non = some (.sh (.bl false)) := rfl
@[simp] theorem notN_dct {kvs : List (Key × D)} : vNotN (.dct kvs) .non = some (.sh (.bl true)) := rfl
@[simp] theorem isN_exc {C : Str} {fs : List (Str × D)} : vIsN (.exc C fs) .non = some (.sh (.bl false)) := rfl
@[simp] theorem notN_exc {C : Str} {fs : List (Str × D)} : vNotN (.exc C fs) .non = some (.sh (.bl true)) := rfl
@[simp] theorem eq_int {i j : Int} : vEq (.int i) (.int j) = some (.sh (.bl (i == j))) := by simp [vEq, eqx, eqOk, pl, dep, deq]
@[simp] theorem ne_int {i j : Int} : vNe (.int i) (.int j) = some (.sh (.bl (!(i == j)))) := by simp [vNe, eqx, eqOk, pl, dep, deq]
@[simp] theorem eq_str {i j : Str} : vEq (.str i) (.str j) = some (.sh (.bl (i == j))) := by simp [vEq, eqx, eqOk, pl, dep, deq]
@[simp] theorem ne_str {i j : Str} : vNe (.str i) (.str j) = some (.sh (.bl (!(i == j)))) := by simp [vNe, eqx, eqOk, pl, dep, deq]
@[simp] theorem eq_bl {i j : Bool} : vEq (.bl i) (.bl j) = some (.sh (.bl (i == j))) := by simp [vEq, eqx, eqOk, pl, dep, deq]
@[simp] theorem ne_bl {i j : Bool} : vNe (.bl i) (.bl j) = some (.sh (.bl (!(i == j)))) := by simp [vNe, eqx, eqOk, pl, dep, deq]
@[simp] theorem len_str {z : Str} : vLen [.str z] = some (.sh (.int z.length)) := rfl
@[simp] theorem len_lst {ds : List D} : vLen [.lst ds] = some (.sh (.int ds.length)) := rfl
@[simp] theorem len_fzl {ds : List D} : vLen [.fzl ds] = some (.sh (.int ds.length)) := rfl
@[simp] theorem len_dct {ds : List (Key × D)} : vLen [.dct ds] = some (.sh (.int ds.length)) := rfl
@[simp] theorem len_tup {ds : List D} : vLen [.tup ds] = some (.sh (.int ds.length)) := rfl
@[simp] theorem dls_lst {ds : List D} : dLs (.lst ds) = some ds := rfl
@[simp] theorem dls_fzl {ds : List D} : dLs (.fzl ds) = some ds := rfl
@[simp] theorem dts_tup {ds : List D} : dTs (.tup ds) = some ds := rfl
@[simp] theorem ix_lst {ds : List D} {i : Int} : vIx (.lst ds) (.int i) = (L2.atI ds i).map .sh := rfl
@[simp] theorem ix_fzl {ds : List D} {i : Int} : vIx (.fzl ds) (.int i) = (L2.atI ds i).map .sh := rfl
@[simp] theorem ix_tup {ds : List D} {i : Int} : vIx (.tup ds) (.int i) = (L2.atI ds i).map .sh := rfl
@[simp] theorem ix_dct {kvs : List (Key × D)} {z : Str} : vIx (.dct kvs) (.str z) = (valD kvs (.inr z)).map .sh := rfl
@[simp] theorem ix_str {z : Str} {i : Int} : vIx (.str z) (.int i) = (L2.atI z.cps.toList i).map fun c => .sh (.str ⟨#[c]⟩) := rfl
@[simp] theorem isi_bool_non  : isBf .bool .non = some false := rfl
@[simp] theorem isi_bool_bl {b : Bool} : isBf .bool (.bl b) = some true := rfl
@[simp] theorem isi_bool_int {i : Int} : isBf .bool (.int i) = some false := rfl
@[simp] theorem isi_bool_str {z : Str} : isBf .bool (.str z) = some false := rfl
@[simp] theorem isi_bool_lst {ds : List D} : isBf .bool (.lst ds) = some false := rfl
@[simp] theorem isi_bool_tup {ds : List D} : isBf .bool (.tup ds) = some false := rfl
@[simp] theorem isi_bool_fzl {ds : List D} : isBf .bool (.fzl ds) = some false := rfl
@[simp] theorem isi_bool_dct {kvs : List (Key × D)} : isBf .bool (.dct kvs) = some false := rfl
@[simp] theorem isi_int_non  : isBf .int .non = some false := rfl
@[simp] theorem isi_int_bl {b : Bool} : isBf .int (.bl b) = some true := rfl
@[simp] theorem isi_int_int {i : Int} : isBf .int (.int i) = some true := rfl
@[simp] theorem isi_int_str {z : Str} : isBf .int (.str z) = some false := rfl
@[simp] theorem isi_int_lst {ds : List D} : isBf .int (.lst ds) = some false := rfl
@[simp] theorem isi_int_tup {ds : List D} : isBf .int (.tup ds) = some false := rfl
@[simp] theorem isi_int_fzl {ds : List D} : isBf .int (.fzl ds) = some false := rfl
@[simp] theorem isi_int_dct {kvs : List (Key × D)} : isBf .int (.dct kvs) = some false := rfl
@[simp] theorem isi_str_non  : isBf .str .non = some false := rfl
@[simp] theorem isi_str_bl {b : Bool} : isBf .str (.bl b) = some false := rfl
@[simp] theorem isi_str_int {i : Int} : isBf .str (.int i) = some false := rfl
@[simp] theorem isi_str_str {z : Str} : isBf .str (.str z) = some true := rfl
@[simp] theorem isi_str_lst {ds : List D} : isBf .str (.lst ds) = some false := rfl
@[simp] theorem isi_str_tup {ds : List D} : isBf .str (.tup ds) = some false := rfl
@[simp] theorem isi_str_fzl {ds : List D} : isBf .str (.fzl ds) = some false := rfl
@[simp] theorem isi_str_dct {kvs : List (Key × D)} : isBf .str (.dct kvs) = some false := rfl
@[simp] theorem isi_list_non  : isBf .list .non = some false := rfl
@[simp] theorem isi_list_bl {b : Bool} : isBf .list (.bl b) = some false := rfl
@[simp] theorem isi_list_int {i : Int} : isBf .list (.int i) = some false := rfl
@[simp] theorem isi_list_str {z : Str} : isBf .list (.str z) = some false := rfl
@[simp] theorem isi_list_lst {ds : List D} : isBf .list (.lst ds) = some true := rfl
@[simp] theorem isi_list_tup {ds : List D} : isBf .list (.tup ds) = some false := rfl
@[simp] theorem isi_list_fzl {ds : List D} : isBf .list (.fzl ds) = some true := rfl
@[simp] theorem isi_list_dct {kvs : List (Key × D)} : isBf .list (.dct kvs) = some false := rfl
@[simp] theorem isi_dict_non  : isBf .dict .non = some false := rfl
@[simp] theorem isi_dict_bl {b : Bool} : isBf .dict (.bl b) = some false := rfl
@[simp] theorem isi_dict_int {i : Int} : isBf .dict (.int i) = some false := rfl
@[simp] theorem isi_dict_str {z : Str} : isBf .dict (.str z) = some false := rfl
@[simp] theorem isi_dict_lst {ds : List D} : isBf .dict (.lst ds) = some false := rfl
@[simp] theorem isi_dict_tup {ds : List D} : isBf .dict (.tup ds) = some false := rfl
@[simp] theorem isi_dict_fzl {ds : List D} : isBf .dict (.fzl ds) = some false := rfl
@[simp] theorem isi_dict_dct {kvs : List (Key × D)} : isBf .dict (.dct kvs) = some true := rfl
@[simp] theorem isi_tuple_non  : isBf .tuple .non = some false := rfl
@[simp] theorem isi_tuple_bl {b : Bool} : isBf .tuple (.bl b) = some false := rfl
@[simp] theorem isi_tuple_int {i : Int} : isBf .tuple (.int i) = some false := rfl
@[simp] theorem isi_tuple_str {z : Str} : isBf .tuple (.str z) = some false := rfl
@[simp] theorem isi_tuple_lst {ds : List D} : isBf .tuple (.lst ds) = some false := rfl
@[simp] theorem isi_tuple_tup {ds : List D} : isBf .tuple (.tup ds) = some true := rfl
@[simp] theorem isi_tuple_fzl {ds : List D} : isBf .tuple (.fzl ds) = some false := rfl
@[simp] theorem isi_tuple_dct {kvs : List (Key × D)} : isBf .tuple (.dct kvs) = some false := rfl
@[simp] theorem ty_lst {ds : List D} : tyD (.lst ds) = "list" := rfl
@[simp] theorem ty_dct {kvs : List (Key × D)} : tyD (.dct kvs) = "dict" := rfl
@[simp ↓] theorem vvar_def {env : En} {i : Nat} {Q : D → En → Prop} {E : XQ} : vVar i env Q E = vq env[i]? env i Q := rfl
@[simp ↓] theorem sretv_def {env : En} {i : Nat} {N : VEnds} : sRetV i N env = rq env[i]? env i N.rt := rfl
@[simp] theorem dctAt_def {env : En} {i : Nat} : dctAt env i = (match env[i]? with | some (.sh (.dct kvs)) => some kvs | some (.ow (.dct kvs)) => some kvs | _ => none) := rfl
@[simp] theorem own_def {env : En} {i : Nat} : own env i = (match env[i]? with | some (.ow d) => some d | some (.io d) => some d | _ => none) := rfl
@[simp] theorem setS_def {env : En} {i : Nat} {d : D} : setS env i d = env.set i (retag env[i]? d) := rfl
def fl1 : D → Bool
  | .non => true | .bl _ => true | .int _ => true | .str _ => true | _ => false
theorem fl1_ok {d : D} (h : fl1 d = true) : flD d = true := by cases d <;> first | rfl | cases h
def fls1 : List D → Bool
  | [] => true
  | d :: ds => fl1 d && fls1 ds
theorem fls1_ok : ∀ {ds : List D}, fls1 ds = true → flsD ds = true
  | [], _ => rfl
  | d :: ds, h => by
    simp only [fls1, Bool.and_eq_true] at h
    simp only [flsD, List.all_cons, Bool.and_eq_true]
    exact ⟨fl1_ok h.1, fls1_ok h.2⟩
@[simp] theorem in_tup {x : D} {ds : List D} (h : (fl1 x && fls1 ds) = true) : vIn x (.tup ds) = some (.sh (.bl (ds.any fun d => deq d x))) := by
  simp only [Bool.and_eq_true] at h
  simp [vIn, isInD, fl1_ok h.1, fls1_ok h.2]
@[simp] theorem notIn_tup {x : D} {ds : List D} (h : (fl1 x && fls1 ds) = true) : vNotIn x (.tup ds) = some (.sh (.bl (!(ds.any fun d => deq d x)))) := by
  simp only [Bool.and_eq_true] at h
  simp [vNotIn, isInD, fl1_ok h.1, fls1_ok h.2]
@[simp] theorem fl_non  : fl1 .non = true := rfl
@[simp] theorem fl_int {i : Int} : fl1 (.int i) = true := rfl
@[simp] theorem fl_bl {i : Bool} : fl1 (.bl i) = true := rfl
@[simp] theorem fl_str {i : Str} : fl1 (.str i) = true := rfl
@[simp] theorem fls_nil : fls1 [] = true := rfl
@[simp] theorem fls_cons {d : D} {ds : List D} : fls1 (d :: ds) = (fl1 d && fls1 ds) := rfl
@[simp] theorem deq_str {a b : Str} : deq (.str a) (.str b) = (a == b) := rfl
@[simp] theorem deq_int {a b : Int} : deq (.int a) (.int b) = (a == b) := rfl
@[simp] theorem deq_bl {a b : Bool} : deq (.bl a) (.bl b) = (a == b) := rfl
@[simp] theorem abs_int {i : Int} : vAbs [.int i] = some (.sh (.int (if i < 0 then -i else i))) := rfl
@[simp] theorem listOf_lst {ds : List D} : vListOf [.lst ds] = some (.ow (.lst ds)) := rfl
@[simp] theorem intOf_int {i : Int} : vInt [.int i] = some (.sh (.int i)) := rfl
@[simp] theorem intOf_bl {b : Bool} : vInt [.bl b] = some (.sh (.int (if b then 1 else 0))) := rfl
@[simp] theorem v_and_assoc {a b c : Prop} : ((a ∧ b) ∧ c) ↔ (a ∧ b ∧ c) := and_assoc
@[simp] theorem fits_def {n : Nat} : (fits n = true) = (n ≤ 16777216) := by simp [fits]
end VL
set_option linter.all false
set_option maxRecDepth 100000
set_option maxHeartbeats 4000000
namespace VL
open PySem PySem.Spec PyProof.Rows L2

section
variable {X : Cx} {W : WX} {K : PySem.W.Frag} {F : FrD} {env env' : En} {σ σ' : L2.St} {G H G' H' : Hp} {d : D} {v : V} {p a : Addr} {vs : List V} {ds : List D} {k : Nat} {o o' : HO}
/-! ### str of an int -/
def strI (i : Int) : Str := (toString i : String)
def vStrOf : List D → Option Sv
  | [.int i] => if decide (i.natAbs.log2 < 1920) && fits (strI i).length then some (.sh (.str (strI i))) else none
  | _ => none
theorem snd_strOf : CallSnd K (fun xs H Q => ∃ i, xs = [.int i] ∧ i.natAbs.log2 < 1920 ∧ Q (.str (toString i : String)) H) vStrOf := by
  intro F env σ G H xs vs res Qh k r e q
  unfold vStrOf at e
  split at e
  · split at e
    · rename_i hc
      cases e
      simp only [Bool.and_eq_true, decide_eq_true_eq] at hc
      obtain ⟨v, rfl, rv⟩ := paired1 r
      rw [rv.int]
      exact ⟨_, rfl, hc.1, q _ G H k (Gle.refl _) (ro_str (fits_ok hc.2))⟩
    · cases e
  · cases e
theorem vo_strOf {q pos : Pos} {e : Expr} {ta : VTA} (hg : Gl X "str") (hm : X.mg "str" = none) (ha : VA X W [e] ta) (he : starEach [e] X.env = (false, eval e X.env) :: starEach [] X.env := by rfl) (hpl : (backTo pos (starEach [] X.env)).any (·.1) = false := by rfl) :
    VO X W (.Call (.Name "str" q) [e] [] pos) (oCB vStrOf ta) := vo_callTy call_str_int snd_strOf hg hm (by decide +kernel) ha (by decide) (by decide) he hpl
/-! ### try .. except c: -/
def sTryOnly (m : Str → Option Bool) (t u : VTS) : VTS := fun D env => t { D with ex := fun C fs env1 => match m C with
  | some true => u { nx := D.nx, rt := D.rt, bk := D.bk, ct := D.ct } env1
  | some false => D.ex C fs env1
  | none => False } env
theorem vs_tryOnly {x : Str} {c : Value} {body suite : List Stmt} {b₀ : Stmt} {np pos pos' : Pos} {t u : VTS} {m : Str → Option Bool} (cx : VC X W k) (hs : X.stack = X.env :: X.outer) (hf : X.env.frame = some X.env.locals) (hc : Names X x c)
    (hm : ∀ C b, m C = some b → PySem.W.exmOne X.K (.ref (He.ga X.K C)) c = some b)
    (hb : ∀ (W : WX) (pn : List (Addr × Obj)) (xe : Value → Shared → Prop), VC (X.tr pn xe) W k → VSs (X.tr pn xe) W body t)
    (hsu : ∀ (a : Addr) (pn : List (Addr × Obj)), VSs (X.suite a pn) WF (b₀ :: suite) u) :
    VS X W (.Try body [.ExceptHandler (some (.Name x np)) none (b₀ :: suite) pos'] [] [] pos) (sTryOnly m t u) := by
  refine ⟨_, L2N.ps_try_many (l := [(c, fun _ _ _ D σ H => ∃ F env G DD', Ok X.K F env σ G H ∧ u DD' env ∧ Comp X.K F WF DD' D)]) (tb := fun W' D σ H => ∃ F env G DD', Ok X.K F env σ G H ∧ t DD' env ∧ Comp X.K F W' DD' D) hs hf cx.tk (fun W' pn xe tk po => ?_) (.cons hc (fun a oe cls d pn _ _ => ?_) .nil), fun F env σ G H D DD k c h => ?_⟩
  · obtain ⟨ts, p1, s1⟩ := (hb W' pn xe ⟨cx.calm, tk, po, cx.hr, cx.nd⟩).ex
    exact ⟨fun pins s σ H D I ⟨F, env, G, DD', k, h, c⟩ => p1.run pins s σ H D I (s1 F env σ G H DD' D k c h)⟩
  · obtain ⟨ts, p1, s1⟩ := (hsu a ((a, oe) :: pn)).ex
    exact ⟨fun pins s σ H D I ⟨F, env, G, DD', k, h, c⟩ => p1.run pins s σ H D I (s1 F env σ G H DD' D k c h)⟩
  · refine ⟨F, env, G, _, k, h, ⟨c.nx, c.rt, c.bk, c.ct, ?_⟩⟩
    intro C fs env1 σ1 G1 H1 k1 he cls d xr
    dsimp only at he
    cases e : m C with
    | none => rw [e] at he; exact he.elim
    | some b =>
      rw [e] at he
      have ec := xr.1
      have hb1 := hm C b e
      rw [← ec] at hb1
      refine ⟨b, hb1, fun hb a ha => ?_, fun hb => ?_⟩
      · subst hb
        exact ⟨F, env1, G1, _, k1, he, ⟨c.nx, c.rt, c.bk, c.ct, fun _ _ _ _ _ _ _ h => h.elim⟩⟩
      · subst hb
        exact c.ex C fs env1 σ1 G1 H1 k1 he cls d xr
/-! ### looked at for a while: owned things are read as shared ones, and are owned again behind -/
def fzS : Sv → Sv
  | .ow (.box k fs) => match k with
    | .lst => .sh (.lst (fs.map (·.1)))
    | .tup => .sh (.tup (fs.map (·.1)))
    | .ins _ _ => .un
  | .ow d => .sh d
  | s => s
def fzE (env : En) : En := env.map fzS
def fzOk1 : Sv → Bool
  | .io (.lst ds) => flsD ds
  | .io _ => false
  | _ => true
def fzOk (env : En) : Bool := env.all fzOk1
theorem Reps.flat {ds : List D} {xs : List V} (hf : flsD ds = true) (h : Reps K G' ds xs) : Reps K G ds xs := by
  induction ds generalizing xs with
  | nil => exact h
  | cons d ds ih =>
    simp only [Reps] at h ⊢
    obtain ⟨x, r, rfl, h1, h2⟩ := h
    simp only [flsD, List.all_cons, Bool.and_eq_true] at hf
    refine ⟨x, r, rfl, ?_, ih hf.2 h2⟩
    cases d <;> simp [flD] at hf <;> exact h1
theorem OwC.rep (g : Gle G G') (hG : G' p = H p) (h : OwC K G H d p) : Rep K G' d (.ref p) := by
  cases d with
  | lst ds =>
    obtain ⟨xs, h1, h2, h3, h4⟩ := h
    simp only [Rep]; exact ⟨p, xs, rfl, hG.trans h1, h3, h4.gle g⟩
  | dct ds =>
    obtain ⟨xs, h1, h2, h3, h4⟩ := h
    simp only [Rep]; exact ⟨p, xs, rfl, hG.trans h1, h3, h4.gle g⟩
  | _ => exact h.elim
theorem Parts.reps (g : Gle G G') : ∀ {fs : List (D × Option Addr)} {xs : List V}, (∀ a ∈ bxA fs, G' a = H a) → Parts K G H fs xs → Reps K G' (fs.map (·.1)) xs
  | [], _, _, h => by simp only [Parts] at h; subst h; exact .nil
  | (d, none) :: fs, _, hn, h => by
    simp only [Parts] at h
    obtain ⟨x, r, rfl, h1, h2⟩ := h
    exact .cons (h1.gle g) (Parts.reps g (fun a ha => hn a (by rw [bxA_none]; exact ha)) h2)
  | (d, some p) :: fs, _, hn, h => by
    simp only [Parts] at h
    obtain ⟨r, rfl, h1, h2⟩ := h
    exact .cons (h1.rep g (hn p (by rw [bxA_some]; exact List.mem_cons_self))) (Parts.reps g (fun a ha => hn a (by rw [bxA_some]; exact List.mem_cons_of_mem _ ha)) h2)
open Classical in
theorem Ok.freeze (k : Ok K F env σ G H) (hz : fzOk env = true) : ∃ (F2 : FrD) (G2 : Hp), Gle G G2 ∧ Ok K F2 (fzE env) σ G2 H ∧ (∀ a, F.H a ≠ none → F2.H a = F.H a) ∧ F2.W = F.W ∧ ∀ G' H', Ok K F2 (fzE env) σ G' H' → Ok K F env σ G H' := by
  let Od : Addr → Prop := fun a => ∃ (i : Nat) (d : D), env[i]? = some (.ow d) ∧ Owns (.ow d) (σ[i]?) a
  have odH : ∀ a, Od a → H a ≠ none ∧ G a = none := fun a ⟨i, d, e, h⟩ => (k.slot i _ e).there h
  have odF : ∀ a, Od a → F.H a = none := fun a ⟨i, d, e, h⟩ => by
    obtain ⟨v, e1, _, h2⟩ := k.slot i _ e
    rw [e1] at h; exact h2 a h
  let G2 : Hp := fun a => if Od a then H a else G a
  have g2 : Gle G G2 := fun a o e => by
    show (if Od a then H a else G a) = some o
    by_cases h : Od a
    · rw [(odH a h).2] at e; cases e
    · rw [if_neg h]; exact e
  have g2y : ∀ a, Od a → G2 a = H a := fun a h => if_pos h
  have g2n : ∀ a, ¬ Od a → G2 a = G a := fun a h => if_neg h
  have wOd : ∀ a, F.W a → ¬ Od a := fun a w h => (k.wf a w).1 (odF a h)
  have gW : ∀ a, F.W a → G2 a = none := fun a w => by rw [g2n a (wOd a w)]; exact k.new a (k.wf a w).1 (k.wf a w).2
  let F2 : FrD := { H := fun a => if Od a then H a else F.H a, G := G2, W := F.W, io := F.io }
  have f2y : ∀ a, Od a → F2.H a = H a := fun a h => if_pos h
  have f2n : ∀ a, ¬ Od a → F2.H a = F.H a := fun a h => if_neg h
  have fzAt : ∀ {i : Nat} {s : Sv}, (fzE env)[i]? = some s → ∃ s0, env[i]? = some s0 ∧ fzS s0 = s := fun {i s} e => by
    unfold fzE at e
    rw [List.getElem?_map] at e
    obtain ⟨s0, h1, h2⟩ := Option.map_eq_some_iff.mp e
    exact ⟨s0, h1, h2⟩
  have okAt : ∀ {i : Nat} {s : Sv}, env[i]? = some s → fzOk1 s = true := fun {i s} e => List.all_eq_true.mp hz s (List.mem_of_getElem? e)
  have notSh : ∀ {s0 : Sv} {x : Option (Option V)} {a : Addr}, Owns (fzS s0) x a → ∃ d, s0 = .io d := fun {s0 x a} h => by
    cases s0 with
    | un => cases h
    | sh d => cases h
    | io d => exact ⟨d, rfl⟩
    | ow d =>
      cases d with
      | box bk fs => cases bk <;> cases h
      | _ => cases h
  refine ⟨F2, G2, g2, ?_, fun a h => f2n a fun h' => h (odF a h'), rfl, fun G' H' k' => ?_⟩
  · refine { sub := fun a u e => ?_, g0 := Gle.refl _, keep := fun a o e w => ?_, new := fun a _ h => h, wH := k.wH, wf := fun a w => ⟨by rw [f2n a (wOd a w)]; exact (k.wf a w).1, gW a w⟩, len := by simp [fzE, k.len], slot := fun i s e => ?_, sep := fun i j s t a e1 e2 hij o1 o2 => ?_ }
    · by_cases h : Od a
      · rw [g2y a h] at e; exact .inl e
      · rw [g2n a h] at e; exact k.sub a u e
    · by_cases h : Od a
      · rw [f2y a h] at e; exact e
      · rw [f2n a h] at e; exact k.keep a o e w
    · obtain ⟨s0, e0, rfl⟩ := fzAt e
      have hs := k.slot i s0 e0
      cases s0 with
      | un => trivial
      | sh d => obtain ⟨v, e1, h1⟩ := hs; exact ⟨v, e1, h1.gle g2⟩
      | io d =>
        obtain ⟨v, e1, h1, h2, h3⟩ := hs
        exact ⟨v, e1, h1.gle g2 fun a ha => gW a (h2 a ha), h2, h3⟩
      | ow d =>
        obtain ⟨v, e1, h1, h2⟩ := hs
        have od : ∀ a, OwA d v a → Od a := fun a ha => ⟨i, d, e0, by rw [e1]; exact ha⟩
        cases d with
        | lst ds =>
          obtain ⟨p, xs, rfl, h3, h4, h5, h6⟩ := h1
          refine ⟨_, e1, ?_⟩
          simp only [Rep]
          exact ⟨p, xs, rfl, (g2y p (od p rfl)).trans h3, h5, h6.gle g2⟩
        | dct ds =>
          obtain ⟨p, xs, rfl, h3, h4, h5, h6⟩ := h1
          refine ⟨_, e1, ?_⟩
          simp only [Rep]
          exact ⟨p, xs, rfl, (g2y p (od p rfl)).trans h3, h5, h6.gle g2⟩
        | box bk fs =>
          obtain ⟨p, xs, o, rfl, h3, h4, h5, h6, h7, h8⟩ := h1
          have rs : Reps K G2 (fs.map (·.1)) xs := h7.reps g2 fun a ha => g2y a (od a (.inr ha))
          have hp : G2 p = some o := (g2y p (od p (.inl rfl))).trans h3
          cases bk with
          | lst =>
            simp only [BkO] at h4; subst h4
            refine ⟨_, e1, ?_⟩
            simp only [Rep]; exact ⟨p, xs, rfl, hp, h6, rs⟩
          | tup =>
            simp only [BkO] at h4; subst h4
            refine ⟨_, e1, ?_⟩
            simp only [Rep]; exact ⟨p, xs, rfl, hp, h6, rs⟩
          | ins C ns => trivial
        | _ => exact ⟨v, e1, Rep.gle g2 h1⟩
    · obtain ⟨s0, e3, rfl⟩ := fzAt e1
      obtain ⟨t0, e4, rfl⟩ := fzAt e2
      obtain ⟨d, rfl⟩ := notSh o1
      obtain ⟨d', rfl⟩ := notSh o2
      exact k.sep i j _ _ a e3 e4 hij o1 o2
  · have gle' : Gle G G' := g2.trans k'.g0
    have kOd : ∀ a, Od a → H' a = H a := fun a h => by
      cases q : H a with
      | none => exact absurd q (odH a h).1
      | some o => exact k'.keep a o ((f2y a h).trans q) (fun w => wOd a w h)
    refine { sub := fun a u e => k'.sub a u (gle' a u e), g0 := k.g0, keep := fun a o e w => ?_, new := k.new, wH := k'.wH, wf := k.wf, len := k.len, slot := fun i s e => ?_, sep := k.sep }
    · exact k'.keep a o ((f2n a fun h => by rw [odF a h] at e; cases e).trans e) w
    · have hs := k.slot i s e
      cases s with
      | un => trivial
      | sh d => exact hs
      | ow d =>
        obtain ⟨v, e1, h1, h2⟩ := hs
        exact ⟨v, e1, h1.heap fun a ha => kOd a ⟨i, d, e, by rw [e1]; exact ha⟩, h2⟩
      | io d =>
        obtain ⟨v, e1, h1, h2, h3⟩ := hs
        have hz1 := okAt e
        have e' : (fzE env)[i]? = some (.io d) := by unfold fzE; rw [List.getElem?_map, e]; rfl
        obtain ⟨v', e1', h1', _⟩ := k'.slot i _ e'
        rw [e1] at e1'; cases e1'
        cases d with
        | lst ds =>
          obtain ⟨p, xs, rfl, h4, h5, h6, h7⟩ := h1'
          exact ⟨_, e1, ⟨p, xs, rfl, h4, k.new p (k.wf p (h2 p rfl)).1 (k.wf p (h2 p rfl)).2, h6, h7.flat hz1⟩, h2, h3⟩
        | _ => cases hz1
/-- a test that is only looked at -/
def tFz (t : VTT) : VTT := fun env Q _ => fzOk env = true ∧ t (fzE env) (fun b env1 => env1 = fzE env ∧ Q b env) (fun _ _ _ => False)
theorem vt_fz {e : Expr} {t : VTT} (h : VT X W e t) : VT X W e (tFz t) := by
  obtain ⟨te, p, s⟩ := h.ex
  refine ⟨te, p, fun F env σ G H Q E Qh k xo ⟨hz, ht⟩ q => ?_⟩
  obtain ⟨F2, G2, g2, k2, _, _, bk⟩ := k.freeze hz
  refine s F2 (fzE env) σ G2 H _ _ _ k2 (fun _ _ _ _ _ _ _ h => h.elim) ht fun b env' G' H' k' g ⟨e1, hq⟩ => ?_
  subst e1
  exact q b env G H' (bk G' H' k') (Gle.refl _) hq
/-- a flat thing, told by looking only -/
def vFz (t : VTE) : VTE := fun env Q _ => fzOk env = true ∧ t (fzE env) (fun d env1 => env1 = fzE env ∧ flD d = true ∧ Q d env) (fun _ _ _ => False)
theorem ve_fz {e : Expr} {t : VTE} (h : VE X W e t) : VE X W e (vFz t) := by
  obtain ⟨te, p, s⟩ := h.ex
  refine ⟨te, p, fun F env σ G H Q E Qh k xo ⟨hz, ht⟩ q => ?_⟩
  obtain ⟨F2, G2, g2, k2, _, _, bk⟩ := k.freeze hz
  refine s F2 (fzE env) σ G2 H _ _ _ k2 (fun _ _ _ _ _ _ _ h => h.elim) ht fun d env' v G' H' k' g r ⟨e1, hf, hq⟩ => ?_
  subst e1
  refine q d env v G H' (bk G' H' k') (Gle.refl _) ?_ hq
  cases d <;> simp [flD] at hf <;> exact r
/-! ### a chain as a test -/
theorem snd_chain {r r' : R2} {f f' : D → D → Option Sv} {pa pb pcc : TE} {ta tb tc : VTB} (s : OpSnd K r f) (s' : OpSnd K r' f') (s1 : SndB K W pa ta) (s2 : SndB K W pb tb) (s3 : SndB K W pcc tc) : SndO K W (tChain r r' pa pb pcc) (oChain f f' ta tb tc) := by
  intro F env σ G H Q E Qh k xo ht q
  refine s1 F env σ G H _ E _ k xo ht fun a env1 v1 G1 H1 k1 g1 r1 ht1 => ?_
  refine s2 F env1 σ G1 H1 _ E _ k1 xo ht1 fun b env2 v2 G2 H2 k2 g2 r2 ⟨x, y, c, ex, ey, er, hq⟩ => ?_
  refine s F env2 σ G2 H2 x y v1 v2 _ _ k2 (k2.read ex (r1.gle g2)) (k2.read ey r2) er fun v G3 H3 k3 g3 ro => ?_
  refine ⟨c, rep_blv (K := K) (G := G3) ro, ?_⟩
  cases c with
  | true =>
    rw [if_pos rfl] at hq ⊢
    refine s3 F env2 σ G3 H3 _ E _ k3 xo hq fun d env3 v3 G4 H4 k4 g4 r4 ⟨y', z, res, ey', ez, er', hq⟩ => ?_
    exact s' F env3 σ G4 H4 y' z v2 v3 res _ k4 (k4.read ey' ((r2.gle g3).gle g4)) (k4.read ez r4) er' fun v G5 H5 k5 g5 ro => q res env3 v G5 H5 k5 ((((g1.trans g2).trans g3).trans g4).trans g5) ro hq
  | false =>
    rw [if_neg Bool.false_ne_true] at hq ⊢
    exact q _ env2 _ G3 H3 k3 ((g1.trans g2).trans g3) ro_bl hq
theorem vt_chain {op op' : CmpOp} {a b c : Expr} {pos : Pos} {r r' : R2} {f f' : D → D → Option Sv} {ta tb tc : VTB} (ho : OpR X (compareOp op) r) (ho' : OpR X (compareOp op') r') (s : OpSnd X.K r f) (s' : OpSnd X.K r' f') (ha : VB X W a ta) (hb : VB X W b tb) (hc : VB X W c tc)
    (pe : ∀ pa pb pc, PE X a pa → PE X b pb → PE X c pc → PE X (.Compare a [op, op'] [b, c] pos) (tChain r r' pa pb pc)) (pt : ∀ pa pb pc, PE X a pa → PE X b pb → PE X c pc → PT X (.Compare a [op, op'] [b, c] pos) (tTest (tChain r r' pa pb pc))) : VT X W (.Compare a [op, op'] [b, c] pos) (tVal (oE (oChain f f' ta tb tc))) := by
  obtain ⟨pa, p1, s1⟩ := ha.ex
  obtain ⟨pb, p2, s2⟩ := hb.ex
  obtain ⟨pc, p3, s3⟩ := hc.ex
  refine ⟨_, pt pa pb pc p1 p2 p3, fun F env σ G H Q E Qh k xo ht q => ?_⟩
  refine snd_chain s s' s1 s2 s3 F env σ G H _ E _ k xo ht fun r env' v G' H' k' g ro ⟨hi, c, e, hq⟩ => ?_
  obtain ⟨G2, g2, k2, rp⟩ := ro.shared k' hi
  rw [e] at rp
  exact ⟨c, rep_blv rp, q c env' G2 H' k2 (g.trans g2) hq⟩
/-! ### a name that moves out -/
def oMov (i : Nat) : VTO := fun env Q _ => match env[i]? with
  | some (.sh d) => Q (.sh d) env
  | some (.ow d) => Q (.ow d) (env.set i .un)
  | _ => False
theorem vo_mov {i : Nat} {x : Str} {p : Pos} (pe : PE X (.Name x p) (tVar i)) : VO X W (.Name x p) (oMov i) := by
  refine ⟨_, pe, fun F env σ G H Q E Qh k xo h q => ?_⟩
  unfold oMov at h
  cases e : env[i]? with
  | none => rw [e] at h; exact h.elim
  | some s =>
    rw [e] at h
    cases s with
    | un => exact h.elim
    | io d => exact h.elim
    | sh d =>
      obtain ⟨v, e2, r⟩ := k.slot i _ e
      exact ⟨v, e2, q (.sh d) env v G H k (Gle.refl _) r h⟩
    | ow d =>
      obtain ⟨v, e2, h1, h2⟩ := k.slot i _ e
      have hl : i < env.length := (List.getElem?_eq_some_iff.mp e).1
      have k1 : Ok X.K F (env.set i .un) σ G H := k.reword e trivial fun a h => by cases h
      refine ⟨v, e2, q (.ow d) _ v G H k1 (Gle.refl _) ⟨h1, fun a ha => ⟨h2 a ha, fun j s ej hj => ?_⟩⟩ h⟩
      by_cases y : j = i
      · subst y; rw [List.getElem?_set_self hl] at ej; cases ej; cases hj
      · rw [List.getElem?_set_ne (Ne.symm y)] at ej
        refine k.sep i j _ s a e ej (Ne.symm y) ?_ hj
        rw [e2]; exact ha
end
end VL
set_option linter.all false
set_option maxRecDepth 100000
set_option maxHeartbeats 4000000
namespace VL
open PySem PySem.Spec PyProof.Rows L2 PySem.NumText
/-! ## numbers as texts -/
theorem strN_list (k : Nat) : (strI k).cps.toList = (Nat.toDigits 10 k).map Char.toNat := by
  have e : strI (k : Int) = Str.ofString (Nat.repr k) := rfl
  rw [e, Str.ofString_eq_toList]
  show (Nat.repr k).toList.map Char.toNat = _
  congr 1
  simp [Nat.repr]
theorem toDigits_digits (k : Nat) : AllDigits ((Nat.toDigits 10 k).map Char.toNat) := by
  induction k using Nat.strongRecOn with
  | _ m ih =>
    by_cases h : m < 10
    · rw [Nat.toDigits_of_lt_base h]
      have : ∀ m : Nat, m < 10 → AllDigits (List.map Char.toNat [Nat.digitChar m]) := by
        intro m hm
        simp only [AllDigits, List.map_cons, List.map_nil, List.mem_singleton, forall_eq]
        revert m; decide
      exact this m h
    · have hm : m % 10 < 10 := Nat.mod_lt m (by decide)
      have t : Nat.toDigits 10 (m / 10) ++ Nat.toDigits 10 (m % 10) = Nat.toDigits 10 (10 * (m / 10) + m % 10) := Nat.toDigits_append_toDigits (by decide) (by omega) hm
      have e : 10 * (m / 10) + m % 10 = m := by omega
      rw [e] at t
      rw [← t, List.map_append]
      intro c hc
      rcases List.mem_append.mp hc with hc | hc
      · exact ih _ (by omega) c hc
      · exact ih _ (by omega) c hc
theorem strN_digits (k : Nat) : AllDigits (strI k).cps.toList := by rw [strN_list]; exact toDigits_digits k
theorem strN_val (k : Nat) : digitsVal (strI k).cps.toList = k := by rw [strN_list]; exact PySem.W.KIN.val_back k
theorem strN_inj {j k : Nat} (h : strI j = strI k) : j = k := by rw [← strN_val j, h, strN_val]
theorem digitsVal_snoc (cs : List Nat) (c : Nat) : digitsVal (cs ++ [c]) = digitsVal cs * 10 + (c - 48) := by simp [digitsVal]
theorem digitsVal_pos : ∀ {cs : List Nat}, AllDigits cs → cs ≠ [] → cs.head? ≠ some 48 → 0 < digitsVal cs := by
  intro cs h hne h0
  cases cs with
  | nil => exact absurd rfl hne
  | cons c cs =>
    have hc := h.head
    have hc0 : c ≠ 48 := fun e => h0 (by rw [e]; rfl)
    have key : ∀ (cs : List Nat) (a : Nat), 0 < a → 0 < cs.foldl (fun acc c => acc * 10 + (c - 48)) a := by
      intro cs
      induction cs with
      | nil => intro a h; exact h
      | cons d cs ih => intro a h; rw [List.foldl_cons]; exact ih _ (by omega)
    show 0 < cs.foldl _ (0 * 10 + (c - 48))
    exact key cs _ (by omega)
theorem digitsVal_back (n : Nat) : ∀ {cs : List Nat}, cs.length = n → AllDigits cs → cs ≠ [] → (cs.head? = some 48 → cs = [48]) → (Nat.toDigits 10 (digitsVal cs)).map Char.toNat = cs := by
  induction n with
  | zero => intro cs hl _ hne; exact absurd (List.length_eq_zero_iff.mp hl) hne
  | succ n ih =>
    intro cs hl hd hne h0
    obtain ⟨cs', c, rfl⟩ : ∃ cs' c, cs = cs' ++ [c] := ⟨cs.dropLast, cs.getLast hne, (List.dropLast_concat_getLast hne).symm⟩
    have hc : 48 ≤ c ∧ c ≤ 57 := hd c (by simp)
    have one : ∀ c : Nat, 48 ≤ c ∧ c ≤ 57 → (Nat.toDigits 10 (c - 48)).map Char.toNat = [c] := by
      intro c hc
      have : c = 48 ∨ c = 49 ∨ c = 50 ∨ c = 51 ∨ c = 52 ∨ c = 53 ∨ c = 54 ∨ c = 55 ∨ c = 56 ∨ c = 57 := by omega
      rcases this with rfl | rfl | rfl | rfl | rfl | rfl | rfl | rfl | rfl | rfl <;> decide
    by_cases he : cs' = []
    · subst he
      simp only [List.nil_append]
      show (Nat.toDigits 10 (0 * 10 + (c - 48))).map Char.toNat = [c]
      rw [Nat.zero_mul, Nat.zero_add]; exact one c hc
    · have hd' : AllDigits cs' := fun d hdd => hd d (List.mem_append_left _ hdd)
      have hh : (cs' ++ [c]).head? = cs'.head? := by
        cases cs' with
        | nil => exact absurd rfl he
        | cons x xs => rfl
      have h0' : cs'.head? ≠ some 48 := fun e => by
        have := h0 (hh.trans e)
        have := congrArg List.length this
        simp at this
        exact he this
      have hp := digitsVal_pos hd' he h0'
      rw [digitsVal_snoc, Nat.mul_comm, ← Nat.toDigits_append_toDigits (by decide) hp (by omega), List.map_append, ih (by simpa using hl) hd' he (fun e => absurd e h0'), one c hc]
theorem strN_back {z : Str} (hd : AllDigits z.cps.toList) (hne : z.cps.toList ≠ []) (h0 : z.cps.toList.head? = some 48 → z.cps.toList = [48]) : strI (digitsVal z.cps.toList) = z := by
  have := digitsVal_back _ rfl hd hne h0
  rw [← strN_list] at this
  cases hz : z with
  | mk cps =>
    subst hz
    cases hs : strI (digitsVal cps.toList) with
    | mk c2 =>
      rw [hs] at this
      congr 1
      exact Array.toList_inj.mp this
theorem strN_head (k : Nat) : (strI k).cps.toList.head? = some 48 → (strI k).cps.toList = [48] := by
  rw [strN_list]
  induction k using Nat.strongRecOn with
  | _ m ih =>
    by_cases h : m < 10
    · rw [Nat.toDigits_of_lt_base h]
      have : ∀ m : Nat, m < 10 → (List.map Char.toNat [Nat.digitChar m]).head? = some 48 → List.map Char.toNat [Nat.digitChar m] = [48] := by
        decide
      exact this m h
    · have hm : m % 10 < 10 := Nat.mod_lt m (by decide)
      have t : Nat.toDigits 10 (m / 10) ++ Nat.toDigits 10 (m % 10) = Nat.toDigits 10 (10 * (m / 10) + m % 10) := Nat.toDigits_append_toDigits (by decide) (by omega) hm
      have e : 10 * (m / 10) + m % 10 = m := by omega
      rw [e] at t
      rw [← t, List.map_append]
      have hne : (Nat.toDigits 10 (m / 10)).map Char.toNat ≠ [] := by
        intro z
        have := PySem.W.KIN.val_back (m / 10)
        rw [z] at this
        have h2 : digitsVal [] = 0 := rfl
        omega
      intro h0
      have hh : ((Nat.toDigits 10 (m / 10)).map Char.toNat ++ (Nat.toDigits 10 (m % 10)).map Char.toNat).head? = ((Nat.toDigits 10 (m / 10)).map Char.toNat).head? := by
        cases hx : (Nat.toDigits 10 (m / 10)).map Char.toNat with
        | nil => exact absurd hx hne
        | cons x xs => rfl
      have := ih (m / 10) (by omega) (hh.symm.trans h0)
      have v := PySem.W.KIN.val_back (m / 10)
      rw [this] at v
      have h2 : digitsVal [48] = 0 := rfl
      omega
theorem strN_ne (k : Nat) : (strI k).cps.toList ≠ [] := by
  rw [strN_list]
  intro z
  have := PySem.W.KIN.val_back k
  rw [z] at this
  have h2 : digitsVal [] = 0 := rfl
  have hk : k = 0 := by omega
  subst hk
  revert z; decide
theorem strN_len {k n : Nat} (hn : 0 < n) (h : k < 10 ^ n) : (strI k).length ≤ n := by
  have e : (strI k).length = (strI k).cps.toList.length := Array.length_toList.symm
  rw [e, strN_list, List.length_map]
  exact (Nat.length_toDigits_le_iff (by decide) hn).mpr h
theorem strN_int {k : Nat} (h : k < 10 ^ 600) : PySem.intText? (strI k) = some (k : Int) := by
  have := intText_digits (strN_digits k) (strN_ne k) (Nat.le_trans (strN_len (n := 600) (by decide) h) (by decide))
  rw [this, strN_val]

/-! ## simp rules for VL24 -/
def tryOn (m : Str → Option Bool) (u : VTS) (N : VEnds) : XQ := fun C fs env1 => match m C with
  | some true => u { nx := N.nx, rt := N.rt, bk := N.bk, ct := N.ct } env1
  | some false => N.ex C fs env1
  | none => False
@[simp ↓] theorem s_tryOn {m : Str → Option Bool} {t u : VTS} {N : VEnds} {env : En} : sTryOnly m t u N env = t { N with ex := tryOn m u N } env := rfl
theorem tryOn_yes {m : Str → Option Bool} {u : VTS} {N : VEnds} {C : Str} {fs : List (Str × D)} {env1 : En} (h : m C = some true) : tryOn m u N C fs env1 = u { nx := N.nx, rt := N.rt, bk := N.bk, ct := N.ct } env1 := by unfold tryOn; rw [h]
theorem tryOn_no {m : Str → Option Bool} {u : VTS} {N : VEnds} {C : Str} {fs : List (Str × D)} {env1 : En} (h : m C = some false) : tryOn m u N C fs env1 = N.ex C fs env1 := by unfold tryOn; rw [h]
theorem tryEx_no {m : Str → Option Bool} {i : Nat} {u : VTS} {N : VEnds} {C : Str} {fs : List (Str × D)} {env1 : En} (h : m C = some false) : tryEx m i u N C fs env1 = N.ex C fs env1 := by unfold tryEx; rw [h]
@[simp ↓] theorem t_fz {t : VTT} {env : En} {Q : Bool → En → Prop} {E : XQ} : tFz t env Q E = (fzOk env = true ∧ t (fzE env) (fun b env1 => env1 = fzE env ∧ Q b env) fun _ _ _ => False) := rfl
@[simp ↓] theorem v_fz {t : VTE} {env : En} {Q : D → En → Prop} {E : XQ} : vFz t env Q E = (fzOk env = true ∧ t (fzE env) (fun d env1 => env1 = fzE env ∧ flD d = true ∧ Q d env) fun _ _ _ => False) := rfl
@[simp] theorem fzE_nil : fzE [] = [] := rfl
@[simp] theorem fzE_cons {s : Sv} {env : En} : fzE (s :: env) = fzS s :: fzE env := rfl
@[simp] theorem fzS_un : fzS .un = .un := rfl
@[simp] theorem fzS_sh {d : D} : fzS (.sh d) = .sh d := rfl
@[simp] theorem fzS_io {d : D} : fzS (.io d) = .io d := rfl
@[simp] theorem fzS_lst {ds : List D} : fzS (.ow (.lst ds)) = .sh (.lst ds) := rfl
@[simp] theorem fzS_dct {kvs : List (Key × D)} : fzS (.ow (.dct kvs)) = .sh (.dct kvs) := rfl
@[simp] theorem fzS_bxl {fs : List (D × Option Addr)} : fzS (.ow (.box .lst fs)) = .sh (.lst (fs.map (·.1))) := rfl
@[simp] theorem fzS_bxt {fs : List (D × Option Addr)} : fzS (.ow (.box .tup fs)) = .sh (.tup (fs.map (·.1))) := rfl
@[simp] theorem fzOk_nil : fzOk [] = true := rfl
@[simp] theorem fzOk_cons {s : Sv} {env : En} : fzOk (s :: env) = (fzOk1 s && fzOk env) := rfl
@[simp] theorem fzO_un : fzOk1 .un = true := rfl
@[simp] theorem fzO_sh {d : D} : fzOk1 (.sh d) = true := rfl
@[simp] theorem fzO_ow {d : D} : fzOk1 (.ow d) = true := rfl
@[simp] theorem fzO_io {ds : List D} : fzOk1 (.io (.lst ds)) = flsD ds := rfl
@[simp ↓] theorem o_mov {env : En} {i : Nat} {Q : Sv → En → Prop} {E : XQ} : oMov i env Q E = rq env[i]? env i Q := rfl
theorem strOf_nat {k : Nat} (h : k ≤ 1000000000) : vStrOf [.int k] = some (.sh (.str (strI k))) := by
  have h1 : (k : Int).natAbs = k := rfl
  have h2 : (strI k).length ≤ 10 := strN_len (by decide) (by omega)
  have h3 : k.log2 < 1920 := by
    by_cases hk : k = 0
    · subst hk; decide
    · refine (Nat.log2_lt hk).mpr (Nat.lt_of_le_of_lt h ?_)
      exact Nat.lt_of_lt_of_le (show 1000000000 < 2 ^ 30 by decide) (Nat.pow_le_pow_right (by decide) (by decide))
  have h4 : fits (strI (k : Int)).length = true := by rw [fits_def]; omega
  simp only [vStrOf, h1]
  rw [if_pos]
  simp [h3, h4]
theorem intOf_str {z : Str} {i : Int} (h : z.length ≤ 640) (h2 : PySem.intText? z = some i) : vInt [.str z] = some (.sh (.int i)) := by
  simp only [vInt]
  rw [if_pos h, h2]; rfl
theorem intOf_strN {k : Nat} (h : k ≤ 1000000000) : vInt [.str (strI k)] = some (.sh (.int k)) :=
  intOf_str (Nat.le_trans (strN_len (n := 10) (by decide) (by omega)) (by decide)) (strN_int (Nat.lt_of_le_of_lt h (Nat.lt_of_lt_of_le (show 1000000000 < 10 ^ 10 by decide) (Nat.pow_le_pow_right (by decide) (by decide)))))
/-! ## steps into rows: numbers below -/
def idx (n : Nat) (z : Str) : Option Nat := (List.range n).find? fun k => decide (strI (k : Nat) = z)
theorem idx_some {n k : Nat} {z : Str} : idx n z = some k ↔ k < n ∧ strI k = z := by
  unfold idx
  constructor
  · intro h
    have h1 := List.mem_of_find?_eq_some h
    have h2 := List.find?_some h
    exact ⟨List.mem_range.mp h1, by simpa using h2⟩
  · rintro ⟨h1, h2⟩
    cases e : (List.range n).find? fun k => decide (strI (k : Nat) = z) with
    | none =>
      have := List.find?_eq_none.mp e k (List.mem_range.mpr h1)
      exact absurd h2 (by simpa using this)
    | some j =>
      have h3 := List.find?_some e
      simp only [decide_eq_true_eq] at h3
      rw [strN_inj (h3.trans h2.symm)]
theorem idx_none {n : Nat} {z : Str} : idx n z = none ↔ ∀ k, k < n → strI k ≠ z := by
  unfold idx
  rw [List.find?_eq_none]
  simp
theorem idx_lt {n k : Nat} {z : Str} (h : idx n z = some k) : k < n := (idx_some.mp h).1
theorem idx_self {n k : Nat} (h : k < n) : idx n (strI k) = some k := idx_some.mpr ⟨h, rfl⟩
/-- the looks of a number -/
def numZ (z : Str) : Bool := decide (1 ≤ z.length) && (decide (z.length ≤ 9) && ((z.cps.toList.all fun c => decide (48 ≤ c) && decide (c ≤ 57)) && !(decide (z.cps.toList.head? = some 48) && !decide (z.cps.toList = [48]))))
theorem numZ_of {z : Str} (h : numZ z = true) : AllDigits z.cps.toList ∧ z.cps.toList ≠ [] ∧ (z.cps.toList.head? = some 48 → z.cps.toList = [48]) ∧ z.length ≤ 9 := by
  simp only [numZ, Bool.and_eq_true, decide_eq_true_eq, List.all_eq_true, Bool.not_eq_true', Bool.and_eq_false_iff, decide_eq_false_iff_not, Bool.not_eq_false'] at h
  obtain ⟨h1, h2, h3, h4⟩ := h
  refine ⟨h3, fun e => ?_, fun e => ?_, h2⟩
  · have : z.length = z.cps.toList.length := Array.length_toList.symm
    rw [e] at this; simp at this; omega
  · rcases h4 with h4 | h4
    · exact absurd e h4
    · exact h4
theorem numZ_strN {k : Nat} (h : k < 1000000000) : numZ (strI k) = true := by
  have hl : (strI k).length ≤ 9 := strN_len (by decide) (by omega)
  have hne := strN_ne k
  have hll : (strI k).length = (strI k).cps.toList.length := Array.length_toList.symm
  have h1 : 1 ≤ (strI k).length := by
    rw [hll]
    rcases hx : (strI k).cps.toList with _ | ⟨a, b⟩
    · exact absurd hx hne
    · simp
  simp only [numZ, Bool.and_eq_true, decide_eq_true_eq, List.all_eq_true, Bool.not_eq_true', Bool.and_eq_false_iff, decide_eq_false_iff_not, Bool.not_eq_false']
  refine ⟨h1, hl, strN_digits k, ?_⟩
  by_cases e : (strI k).cps.toList.head? = some 48
  · exact .inr (strN_head k e)
  · exact .inl e
theorem idx_numZ {n : Nat} {z : Str} (hn : n ≤ 1000000000) : idx n z = if numZ z = true then (if digitsVal z.cps.toList < n then some (digitsVal z.cps.toList) else none) else none := by
  split
  · rename_i h
    obtain ⟨h1, h2, h3, h4⟩ := numZ_of h
    have hb := strN_back h1 h2 h3
    split
    · rename_i h5; exact idx_some.mpr ⟨h5, hb⟩
    · rename_i h5
      refine idx_none.mpr fun k hk e => h5 ?_
      rw [← e, strN_val]; exact hk
  · rename_i h
    refine idx_none.mpr fun k hk e => h ?_
    rw [← e]; exact numZ_strN (by omega)
end VL
set_option linter.all false
set_option maxRecDepth 100000
set_option maxHeartbeats 4000000
namespace VL
open PySem PySem.Spec PyProof.Rows L2

section
variable {X : Cx} {W : WX} {K : PySem.W.Frag} {F : FrD} {env env' : En} {σ σ' : L2.St} {G H G' H' : Hp} {d : D} {v : V} {p a : Addr} {vs : List V} {ds : List D} {k : Nat} {o o' : HO}
/-! ### d.copy() -/
def tCopy (te : TE) : TE := fun σ H Q => te σ H fun x H1 => ∃ d kvs, x = .ref d ∧ Rd H1 d (.dK kvs) ∧ ∀ p, H1 p = none → Q (.ref p) (upd H1 p (.dK kvs))
theorem pe_dcopy {e : Expr} {te : TE} {apos cpos : Pos} (he : PE X e te) (hbase : attributeBase e "copy" X.env (eval e X.env) = eval e X.env := by rfl) (hline : (apos.endLine == cpos.line) = true := by rfl) : PE X (.Call (.Attribute e "copy" apos) [] [] cpos) (tCopy te) := by
  refine ⟨fun pins s σ H Q I h => ?_⟩
  refine wpAny_Call_method (T := "dict") (id := "dict.copy") hbase rfl hline F.plainAttrs_dict F.slot_dict_copy F.type_dict_copy (thn (he.run pins s σ H _ I h) fun u s1 ⟨x, H1, I1, rx, d, kvs, ex, hd, q⟩ => ?_)
  subst ex
  obtain rfl : u = Value.ref d := rx
  obtain ⟨z, lo, vs, rel, dd⟩ := dk_rd I1.hok hd
  refine ⟨dd.typeIs, dd.mapOf.noDict, ?_⟩
  show wpAny _ _ (callWith cpos (.builtin "dict.copy") [.ref d] [] []) _ X.xe s1
  have hlen : vs.length ≤ sizeLine := by rw [← rel.length]; exact z
  refine method_meetsIn F.slot_dict_copy F.entry_dict_copy rfl (PySem.evalArgs_none ⟨rfl, dd.typeIs, F.args_dict_copy_1 _, _, meets_dict_copy (mixKind X.prog X.w) d lo, ⟨vs, dd, hlen, ?_⟩⟩)
  intro h' hd' _ hk
  have hsz : s1.heap.objs.size ≤ s1.heap.objs.size := Nat.le_refl _
  have I2 : Inv X pins σ (upd H1 s1.heap.objs.size (.dK kvs)) { s1 with heap := h' } := I1.laid (t' := s1.toks) (a := s1.heap.objs.size) (o := .dK kvs) hk hsz ⟨z, beq_eq_false_iff_ne.mpr (Nat.ne_of_gt I1.big), vs, rel, hd'⟩
  exact ⟨.ref s1.heap.objs.size, _, I2, rfl, q _ (I1.hok.fresh hsz)⟩
def oCopy (tb : VTB) : VTO := fun env Q E => tb env (fun b env1 => ∃ kvs, b.get env1 = some (.dct kvs) ∧ Q (.ow (.dct kvs)) env1) E
theorem vo_dcopy {e : Expr} {tb : VTB} {apos cpos : Pos} (h : VB X W e tb) (hbase : attributeBase e "copy" X.env (eval e X.env) = eval e X.env := by rfl) (hline : (apos.endLine == cpos.line) = true := by rfl) : VO X W (.Call (.Attribute e "copy" apos) [] [] cpos) (oCopy tb) := by
  obtain ⟨pb, p1, s1⟩ := h.ex
  refine ⟨_, pe_dcopy p1 hbase hline, fun F env σ G H Q E Qh k xo ht q => ?_⟩
  refine s1 F env σ G H _ E _ k xo ht fun b env1 v G1 H1 k1 g1 r1 ⟨kvs, e1, hq⟩ => ?_
  obtain ⟨a, ys, rfl, hr, hz, rk⟩ := (k1.read e1 r1).dct k1.sub
  refine ⟨a, ys, rfl, hr, fun p hp => ?_⟩
  obtain ⟨k2, ro⟩ := ro_dct k1 hp hz rk
  exact q _ env1 _ _ _ k2 g1 ro hq
/-! ### a table of the module, asked by a text -/
/-- what the table x has by the texts that are asked -/
def KTab (K : PySem.W.Frag) (w : World) (mg : Str → Option Value) (x : Str) (l : List (Str × Option Int)) : Prop := ∃ a es n, mg x = some (.ref a) ∧ K.lookup a = some ⟨.type "dict", none, .dict es n, #[]⟩ ∧ PySem.W.KeysLit w.params es.toList ∧ (a == sysModules) = false ∧
  ∀ z o, (z, o) ∈ l → match o with
    | some i => ∃ t, PySem.W.nsIn K a z = some (some (.int i t))
    | none => PySem.W.nsIn K a z = some none
def kgV (o : Option Int) (x : D) : D := match o with
  | some i => .int i
  | none => x
def oKGet (l : List (Str × Option Int)) (tk : VTB) (tx : VTE) : VTE := fun env Q E => tk env (fun b env1 => tx env1 (fun x env2 => ∃ z o, b.get env2 = some (.str z) ∧ (z, o) ∈ l ∧ Q (kgV o x) env2) E) E
theorem ve_kget {x : Str} {l : List (Str × Option Int)} {e f : Expr} {q apos cpos : Pos} {tk : VTB} {tx : VTE} (T : KTab X.K X.w X.mg x l) (hg : Gl X x) (hk : VB X W e tk) (hx : VE X W f tx) (m : M2 X (.Name x q) "get" apos e f cpos) (hdb : (x == ("__debug__" : Str)) = false := by decide) : VE X W (.Call (.Attribute (.Name x q) "get" apos) [e, f] [] cpos) (oKGet l tk tx) := by
  obtain ⟨pb, p2, s2⟩ := hk.ex
  obtain ⟨pc, p3, s3⟩ := hx.ex
  obtain ⟨a, es, n, h1, h2, h3, h4, h5⟩ := T
  refine ⟨fun σ H Q => pb σ H fun y H1 => pc σ H1 fun z H2 => ∃ t o, y = .str t ∧ (t, o) ∈ l ∧ Q (match o with | some i => .int i | none => z) H2, ⟨fun pins s σ H Q I h => ?_⟩, fun F env σ G H Q E Qh k xo ht q => ?_⟩
  · refine wpAny_Call_method m.base m.few m.line PySem.F.plainAttrs_dict PySem.F.slot_dict_get PySem.F.type_dict_get (ld_glob I hg h1 ?_ hdb)
    have hm := PySem.W.mapOf_K (prog := X.prog) (w := X.w) I.kIn h2 h3
    refine ⟨hm.typeIs, hm.noDict, ?_⟩
    rw [m.trees]
    refine Calls.callWith_builtin rfl (Calls.evalArgs_plain (Calls.spliced_cons (thn (p2.run pins s σ H _ I h) fun iv s2 ⟨y, H2, I2, ry, q2⟩ =>
      Calls.spliced_cons (thn (p3.run pins s2 σ H2 _ I2 q2) fun fv s3 ⟨z, H3, I3, rz, t, o, ey, hmem, q3⟩ => Calls.spliced_nil ?_))))
    subst ey
    obtain ⟨tk, rfl⟩ := ry
    have hm3 := PySem.W.mapOf_K (prog := X.prog) (w := X.w) I3.kIn h2 h3
    have fact := h5 t o hmem
    refine call_meetsIn PySem.F.slot_dict_get hm3.typeIs PySem.F.entry_dict_get (PySem.F.args_dict_get_3 _ _ _) (meets_dict_get_default (strKind X.prog X.w) a (strKind_is X.prog X.w t tk) h4 fv) ⟨_, hm3, ?_⟩
    cases o with
    | some i =>
      obtain ⟨ti, hn⟩ := fact
      refine ⟨_, H3, I3.tok _, ?_, q3⟩
      rw [PySem.W.find_K h2 hn]
      exact ⟨ti, rfl⟩
    | none =>
      refine ⟨_, H3, I3.tok _, ?_, q3⟩
      rw [PySem.W.find_K h2 fact]
      exact rz
  · refine s2 F env σ G H _ E _ k xo ht fun b env1 bv G1 H1 k1 g1 r1 ht1 => ?_
    refine s3 F env1 σ G1 H1 _ E _ k1 xo ht1 fun x env2 xv G2 H2 k2 g2 r2 ⟨z, o, e1, e2, hq⟩ => ?_
    have := (k2.read e1 (r1.gle g2)).str
    refine ⟨z, o, this.1, e2, ?_⟩
    cases o with
    | some i => exact q _ env2 _ G2 H2 k2 (g1.trans g2) rep_int hq
    | none => exact q _ env2 _ G2 H2 k2 (g1.trans g2) r2 hq
/-! ### displays with an owned name -/
def isCon : D → Bool
  | .lst _ => true
  | .dct _ => true
  | _ => false
theorem OwR.con (h : OwR K G H d v) (hc : isCon d = true) : ∃ p, v = .ref p ∧ OwC K G H d p ∧ OwA d v p := by
  cases d <;> simp [isCon] at hc
  · obtain ⟨p, xs, rfl, h1⟩ := h; exact ⟨p, rfl, ⟨xs, h1⟩, rfl⟩
  · obtain ⟨p, xs, rfl, h1⟩ := h; exact ⟨p, rfl, ⟨xs, h1⟩, rfl⟩
/-- a new thing around an owned one -/
theorem box_new {i : Nat} {bk : Bk} {pre : List D} {xs : List V} {hp : H p = none} {a : Addr} {ho : HO} (k : Ok K F env σ G H) (e : env[i]? = some (.ow d)) (hc : isCon d = true) (ev : σ[i]? = some (some (.ref a))) (hr : Reps K G pre xs) (hb : BkO K bk (xs ++ [.ref a]) ho) (hz : xs.length + 1 ≤ sizeLine) :
    Ok K F (env.set i .un) σ G (upd H p ho) ∧ RO K F (env.set i .un) σ G (upd H p ho) (.ow (.box bk (pre.map (fun d => (d, none)) ++ [(d, some a)]))) (.ref p) := by
  obtain ⟨v, e1, h1, h2⟩ := k.slot i _ e
  rw [ev] at e1; cases e1
  obtain ⟨q, eq, oc, oa⟩ := h1.con hc
  cases eq
  have hl : i < env.length := (List.getElem?_eq_some_iff.mp e).1
  have k1 : Ok K F (env.set i .un) σ G H := k.reword e trivial fun a h => by cases h
  have k2 : Ok K F (env.set i .un) σ G (upd H p ho) := k1.alloc hp
  have hne : a ≠ p := fun z => by rw [z] at oc; exact oc.there.1 hp
  have hA : bxA (pre.map (fun d => (d, none)) ++ [(d, some a)]) = [a] := by
    have : ∀ l : List D, bxA (l.map (fun d => ((d, none) : D × Option Addr)) ++ [(d, some a)]) = [a] := fun l => by
      induction l with
      | nil => rfl
      | cons x l ih => rw [List.map_cons, List.cons_append, bxA_none]; exact ih
    exact this pre
  have hparts : ∀ (l : List D) (ys : List V), Reps K G l ys → Parts K G (upd H p ho) (l.map (fun d => ((d, none) : D × Option Addr)) ++ [(d, some a)]) (ys ++ [.ref a]) := fun l => by
    induction l with
    | nil =>
      intro ys hy
      simp only [Reps] at hy; subst hy
      simp only [List.map_nil, List.nil_append, Parts]
      exact ⟨[], rfl, oc.heap (upd_ne hne), rfl⟩
    | cons x l ih =>
      intro ys hy
      simp only [Reps] at hy
      obtain ⟨y, r, rfl, hy1, hy2⟩ := hy
      simp only [List.map_cons, List.cons_append, Parts]
      exact ⟨y, _, rfl, hy1, ih r hy2⟩
  refine ⟨k2, ⟨p, _, ho, rfl, upd_same, hb, k.gnone hp, by simpa using hz, hparts pre xs hr, ?_⟩, fun b hb' => ?_⟩
  · rw [hA]; simp; exact fun z => hne z.symm
  · rw [show OwA _ _ b = (b = p ∨ b ∈ bxA _) from rfl, hA] at hb'
    rcases hb' with rfl | hb'
    · exact ⟨k.fnone hp, fun j s ej => k1.notOwned hp j s ej⟩
    · simp at hb'; subst hb'
      refine ⟨h2 b oa, fun j s ej hj => ?_⟩
      by_cases y : j = i
      · subst y; rw [List.getElem?_set_self hl] at ej; cases ej; cases hj
      · rw [List.getElem?_set_ne (Ne.symm y)] at ej
        refine k.sep i j _ s b e ej (Ne.symm y) ?_ hj
        rw [ev]; exact oa
/-- [x], x a name that moves -/
def oBx1 (i : Nat) : VTO := fun env Q _ => match env[i]? with
  | some (.sh m) => Q (.ow (.lst [m])) env
  | some (.ow m) => isCon m = true ∧ ∀ p, Q (.ow (.box .lst [(m, some p)])) (env.set i .un)
  | _ => False
theorem vo_bx1 {i : Nat} {x : Str} {p pos : Pos} (pe : PE X (.Name x p) (tVar i)) (hs : starEach [.Name x p] X.env = (false, eval (.Name x p) X.env) :: starEach [] X.env := by rfl) : VO X W (.List [.Name x p] pos) (oBx1 i) := by
  refine ⟨_, pe_lst (pa_cons pe pa_nil hs), fun F env σ G H Q E Qh k xo h q => ?_⟩
  unfold oBx1 at h
  cases e : env[i]? with
  | none => rw [e] at h; exact h.elim
  | some s =>
    rw [e] at h
    have hz1 : ([] : List V).length + 1 ≤ sizeLine := by rw [sizeLine_eq]; decide
    cases s with
    | un => exact h.elim
    | io d => exact h.elim
    | sh m =>
      obtain ⟨v, e2, r⟩ := k.slot i _ e
      refine ⟨v, e2, hz1, fun pp hp => ?_⟩
      obtain ⟨k2, ro⟩ := ro_lst k hp (xs := [v]) hz1 (.one r)
      exact q _ env _ _ _ k2 (Gle.refl _) ro h
    | ow m =>
      obtain ⟨hc, h⟩ := h
      obtain ⟨v, e2, h1, h2⟩ := k.slot i _ e
      obtain ⟨a, rfl, oc, oa⟩ := h1.con hc
      refine ⟨_, e2, hz1, fun pp hp => ?_⟩
      obtain ⟨k2, ro⟩ := box_new (hp := hp) (bk := .lst) (pre := []) (xs := []) (ho := .lst [.ref a]) k e hc e2 .nil rfl hz1
      exact q _ _ _ _ _ k2 (Gle.refl _) ro (h a)
/-- (e, x), x a name that moves -/
def oBx2 (te : VTE) (i : Nat) : VTO := fun env Q E => te env (fun d env1 => match env1[i]? with
  | some (.sh m) => Q (.sh (.tup [d, m])) env1
  | some (.ow m) => isCon m = true ∧ ∀ p, Q (.ow (.box .tup [(d, none), (m, some p)])) (env1.set i .un)
  | _ => False) E
theorem vo_bx2 {i : Nat} {x : Str} {e : Expr} {x1} {p pos : Pos} {te : VTE} (h : VE X W e te) (pe : PE X (.Name x p) (tVar i)) (hs : starEach [e, .Name x p] X.env = (false, eval e X.env) :: starEach [.Name x p] X.env := by rfl) (hs2 : starEach [.Name x p] X.env = (false, eval (.Name x p) X.env) :: starEach [] X.env := by rfl) : VO X W (.Tuple [e, .Name x p] x1 pos) (oBx2 te i) := by
  obtain ⟨pa, p1, s1⟩ := h.ex
  refine ⟨_, pe_tup (pa_cons p1 (pa_cons pe pa_nil hs2) hs), fun F env σ G H Q E Qh k xo h q => ?_⟩
  refine s1 F env σ G H _ E _ k xo h fun d env1 v1 G1 H1 k1 g1 r1 h => ?_
  cases e : env1[i]? with
  | none => rw [e] at h; exact h.elim
  | some s =>
    rw [e] at h
    have hz1 : ([v1] : List V).length + 1 ≤ sizeLine := by rw [sizeLine_eq]; show 2 ≤ 16777216; decide
    cases s with
    | un => exact h.elim
    | io d => exact h.elim
    | sh m =>
      obtain ⟨v, e2, r⟩ := k1.slot i _ e
      refine ⟨v, e2, hz1, fun pp hp => ?_⟩
      obtain ⟨k2, g2, rp⟩ := ro_tup k1 hp (xs := [v1, v]) hz1 (.cons r1 (.one r))
      exact q (.sh (.tup [d, m])) env1 _ _ _ k2 (g1.trans g2) rp h
    | ow m =>
      obtain ⟨hc, h⟩ := h
      obtain ⟨v, e2, h1, h2⟩ := k1.slot i _ e
      obtain ⟨a, rfl, oc, oa⟩ := h1.con hc
      refine ⟨_, e2, hz1, fun pp hp => ?_⟩
      obtain ⟨k2, ro⟩ := box_new (hp := hp) (bk := .tup) (pre := [d]) (xs := [v1]) (ho := .tup [v1, .ref a]) k1 e hc e2 (.one r1) rfl hz1
      exact q _ _ _ _ _ k2 g1 ro (h a)
/-! ### a part of a box is changed; the box is not read any more -/
def bxAt (env : En) (i j : Nat) : Option (D × Addr) := match env[i]? with
  | some (.ow (.box .lst fs)) => (fs[j]?).bind fun f => f.2.map fun p => (f.1, p)
  | some (.ow (.box .tup fs)) => (fs[j]?).bind fun f => f.2.map fun p => (f.1, p)
  | _ => none
theorem Parts.at : ∀ {fs : List (D × Option Addr)} {xs : List V} {j : Nat}, Parts K G H fs xs → fs[j]? = some (d, some p) → xs[j]? = some (.ref p) ∧ OwC K G H d p ∧ p ∈ bxA fs
  | [], _, _, _, e => by simp at e
  | (c, none) :: fs, _, 0, h, e => by simp at e
  | (c, some q) :: fs, _, 0, h, e => by
    simp only [Parts] at h
    obtain ⟨r, rfl, h1, h2⟩ := h
    simp at e; obtain ⟨rfl, rfl⟩ := e
    exact ⟨rfl, h1, by rw [bxA_some]; exact List.mem_cons_self⟩
  | (c, none) :: fs, _, j + 1, h, e => by
    simp only [Parts] at h
    obtain ⟨x, r, rfl, h1, h2⟩ := h
    obtain ⟨a1, a2, a3⟩ := Parts.at h2 (show fs[j]? = some (d, some p) by simpa using e)
    exact ⟨by simpa using a1, a2, by rw [bxA_none]; exact a3⟩
  | (c, some q) :: fs, _, j + 1, h, e => by
    simp only [Parts] at h
    obtain ⟨r, rfl, h1, h2⟩ := h
    obtain ⟨a1, a2, a3⟩ := Parts.at h2 (show fs[j]? = some (d, some p) by simpa using e)
    exact ⟨by simpa using a1, a2, by rw [bxA_some]; exact List.mem_cons_of_mem _ a3⟩
theorem Ok.bxAt {i j : Nat} (k : Ok K F env σ G H) (h : VL.bxAt env i j = some (d, p)) : ∃ a xs, σ[i]? = some (some (.ref a)) ∧ (H a = some (.lst xs) ∨ H a = some (.tup xs)) ∧ xs[j]? = some (.ref p) ∧ OwC K G H d p ∧
    ∀ o, Ok K F (env.set i .un) σ G (upd H p o) := by
  unfold VL.bxAt at h
  have main : ∀ bk fs, env[i]? = some (.ow (.box bk fs)) → (bk = .lst ∨ bk = .tup) → ((fs[j]?).bind fun f => f.2.map fun p => (f.1, p)) = some (d, p) → ∃ a xs, σ[i]? = some (some (.ref a)) ∧ (H a = some (.lst xs) ∨ H a = some (.tup xs)) ∧ xs[j]? = some (.ref p) ∧ OwC K G H d p ∧
      ∀ o, Ok K F (env.set i .un) σ G (upd H p o) := fun bk fs e hb h => by
    obtain ⟨f, hf, h⟩ := Option.bind_eq_some_iff.mp h
    obtain ⟨q, hq, h⟩ := Option.map_eq_some_iff.mp h
    cases h
    have hf : fs[j]? = some (f.1, some p) := by rw [hf, ← hq]
    obtain ⟨v, e1, h1, h2⟩ := k.slot i _ e
    obtain ⟨a, xs, o, rfl, h3, h4, h5, h6, h7, h8⟩ := h1
    obtain ⟨a1, a2, a3⟩ := h7.at hf
    refine ⟨a, xs, e1, ?_, a1, a2, fun o' => ?_⟩
    · rcases hb with rfl | rfl
      · simp only [BkO] at h4; subst h4; exact .inl h3
      · simp only [BkO] at h4; subst h4; exact .inr h3
    · exact k.change (t := .un) e (by rw [e1]; exact .inr a3) trivial fun a h => by cases h
  split at h
  · rename_i fs e; exact main _ _ e (.inl rfl) h
  · rename_i fs e; exact main _ _ e (.inr rfl) h
  · cases h
/-- reading x[j] -/
theorem ix_box {a : Addr} {xs : List V} {j : Nat} {Q : VK} (h : H a = some (.lst xs) ∨ H a = some (.tup xs)) (e : xs[j]? = some v) (q : Q v H) : rIx4 K (.ref a) (.int j) H Q := by
  have hat : L2.atI xs (j : Int) = some v := by
    have hj : j < xs.length := (List.getElem?_eq_some_iff.mp e).1
    unfold L2.atI L2.ixN
    rw [if_pos (by omega), if_pos (by omega)]
    simpa using e
  rcases h with h | h
  · exact .inr (.inl ⟨a, xs, j, v, rfl, rfl, .inl (.inl h), hat, q⟩)
  · exact .inr (.inr (.inl ⟨a, xs, j, v, rfl, rfl, .inl (.inl h), hat, q⟩))
def sStoBx (i j : Nat) (tv : VTE) (z : Str) : VTS := fun D env => tv env (fun _ env1 => ∃ kvs p, bxAt env1 i j = some (.dct kvs, p) ∧ kvs.length + 1 ≤ 16777216 ∧ D.nx (env1.set i .un)) D.ex
theorem vs_stoBx {i j : Nat} {y z : Str} {jc jz : Nat} {q pos tpos spos cpos zpos : Pos} {e : Expr} {tv : VTE} (cx : VC X W k) (pv : PE X (.Name y q) (tVar i)) (hv : VE X W e tv)
    (hpl : PlainIx (.Constant (.int j) jc cpos) := by intro _ _; rfl)
    (ha : ∀ v, assign (.Subscript (.Subscript (.Name y q) (.Constant (.int j) jc cpos) spos) (.Constant (.str z) jz zpos) tpos) X.env v = (do
      let ov ← holding [v] (eval (.Subscript (.Name y q) (.Constant (.int j) jc cpos) spos) X.env)
      let iv ← holding [v, ov] (eval (.Constant (.str z) jz zpos) X.env)
      standAt tpos
      holding [v, ov, iv] (setItem ov iv v)
      release [v, ov, iv] []) := by intro _; rfl)
    (hs : swapsWithSole [.Subscript (.Subscript (.Name y q) (.Constant (.int j) jc cpos) spos) (.Constant (.str z) jz zpos) tpos] e pos.line X.env = pure false := by rfl) (hw : swappedStores [.Subscript (.Subscript (.Name y q) (.Constant (.int j) jc cpos) spos) (.Constant (.str z) jz zpos) tpos] e X.env = pure none := by rfl)
    (h1 : (assignEach [.Subscript (.Subscript (.Name y q) (.Constant (.int j) jc cpos) spos) (.Constant (.str z) jz zpos) tpos] X.env).map (·.2) = [assign (.Subscript (.Subscript (.Name y q) (.Constant (.int j) jc cpos) spos) (.Constant (.str z) jz zpos) tpos) X.env] := by rfl) :
    VS X W (.Assign [.Subscript (.Subscript (.Name y q) (.Constant (.int j) jc cpos) spos) (.Constant (.str z) jz zpos) tpos] e pos) (sStoBx i j tv z) := by
  obtain ⟨pa, p1, s1⟩ := hv.ex
  refine ⟨_, ps_asg p1 (pg_sub (pe_ix (ix_any (hu_of cx.hr)) pv pe_int hpl) pe_str (set_any (by have := cx.hr.un; omega)) ha) hs hw h1, fun F env σ G H D DD k c h => ?_⟩
  refine s1 F env σ G H _ D.ex _ k c.ex h fun x env1 v G1 H1 k1 g1 r1 ⟨kvs, p, e2, hl, hq⟩ => ?_
  obtain ⟨a, xs, e3, h3, h4, h5, h6⟩ := k1.bxAt e2
  obtain ⟨ys, h7, h8, h9, h10⟩ := h5
  refine ⟨_, e3, ix_box h3 h4 ?_⟩
  have hl2 := h10.len
  refine .inr ⟨p, _, rfl, .k (k := .inr z) h7 (by rw [hl2, sizeLine_eq]; omega), c.nx _ _ G1 _ (h6 _) hq⟩
def oAppBx (i j : Nat) (ta : VTA) : VTE := fun env Q E => ∃ ds0 p, bxAt env i j = some (.lst ds0, p) ∧ ta env (fun bs env1 => ∃ ds d, bxAt env1 i j = some (.lst ds, p) ∧ vals bs = some [d] ∧ ds.length + 1 ≤ 16777216 ∧ Q .non (env1.set i .un)) E
theorem ve_appBx {i j : Nat} {y : Str} {jc : Nat} {q spos cpos apos pos : Pos} {e : Expr} {ta : VTA} (cx : VC X W k) (pv : PE X (.Name y q) (tVar i)) (ha : VA X W [e] ta) (hpl : PlainIx (.Constant (.int j) jc cpos) := by intro _ _; rfl)
    (hbase : attributeBase (.Subscript (.Name y q) (.Constant (.int j) jc cpos) spos) "append" X.env (eval (.Subscript (.Name y q) (.Constant (.int j) jc cpos) spos) X.env) = eval (.Subscript (.Name y q) (.Constant (.int j) jc cpos) spos) X.env := by rfl)
    (hfew : ((backTo pos (starEach [e] X.env)).all (fun x => !x.1) && (backToKw pos (keywordEach [] X.env)).all (fun x => x.1.isSome)
      && decide (([e] : List Expr).length + ([] : List Keyword).length + (if ([] : List Keyword).isEmpty then 0 else 1) < 30)) = true := by rfl)
    (hline : (apos.endLine == pos.line) = true := by rfl) (hs : starEach [e] X.env = (false, eval e X.env) :: starEach [] X.env := by rfl) :
    VE X W (.Call (.Attribute (.Subscript (.Name y q) (.Constant (.int j) jc cpos) spos) "append" apos) [e] [] pos) (oAppBx i j ta) := by
  obtain ⟨tp, p1, s1⟩ := ha.ex
  refine ⟨_, pe_bm PySem.F.plainAttrs_list PySem.F.slot_list_append PySem.F.type_list_append mt_append (pe_ix (ix_any (hu_of cx.hr)) pv pe_int hpl) p1 hbase hfew hline hs, fun F env σ G H Q E Qh k xo ⟨ds0, p, h0, ht⟩ q => ?_⟩
  obtain ⟨a, xs, e3, h3, h4, h5, _⟩ := k.bxAt h0
  obtain ⟨zs, h7, _⟩ := h5
  refine ⟨_, e3, ix_box h3 h4 ⟨.inl ⟨rfl, zs, .inl (.inl h7)⟩, ?_⟩⟩
  refine s1 F env σ G H _ E _ k xo ht fun bs env1 vs G1 H1 k1 g1 r1 ⟨ds, d, e1, ev, hl, hq⟩ => ?_
  obtain ⟨a', xs', _, _, _, h5', h6'⟩ := k1.bxAt e1
  obtain ⟨ys, h8, _, _, h10⟩ := h5'
  have rs := vals_reps r1 ev
  simp only [Reps] at rs
  obtain ⟨w, r, rfl, rw1, rfl⟩ := rs
  have hl2 := h10.len
  exact ⟨p, ys, w, rfl, rfl, h8, by rw [hl2, sizeLine_eq]; omega, q _ _ _ G1 _ (h6' _) g1 rep_non hq⟩
end
end VL
set_option linter.all false
set_option maxRecDepth 100000
set_option maxHeartbeats 4000000
namespace VL
open PySem PySem.Spec PyProof.Rows L2

/-! ### targets -/
abbrev VTG := D → En → (En → Prop) → Prop
abbrev VTGs := List D → En → (En → Prop) → Prop
def SndG (K : PySem.W.Frag) (g : TG) (t : VTG) : Prop :=
  ∀ F env σ G H d v (Q : En → Prop) (Qh : L2.St → Hp → Prop), Ok K F env σ G H → Rep K G d v → t d env Q → (∀ env' σ', Ok K F env' σ' G H → Q env' → Qh σ' H) → g v σ H Qh
def SndGs (K : PySem.W.Frag) (g : TGs) (t : VTGs) : Prop :=
  ∀ F env σ G H ds vs (Q : En → Prop) (Qh : L2.St → Hp → Prop), Ok K F env σ G H → Reps K G ds vs → t ds env Q → (∀ env' σ', Ok K F env' σ' G H → Q env' → Qh σ' H) → g vs σ H Qh
structure VG (X : Cx) (tg : Expr) (t : VTG) where
  ex : ∃ g, PG X tg g ∧ SndG X.K g t
structure VGs (X : Cx) (tgs : List Expr) (t : VTGs) where
  ex : ∃ g, PGs X tgs g ∧ SndGs X.K g t
section
variable {X : Cx} {W : WX} {K : PySem.W.Frag} {F : FrD} {env env' : En} {σ σ' : L2.St} {G H G' H' : Hp} {d : D} {v : V} {p a : Addr} {vs : List V} {ds : List D} {k : Nat} {o o' : HO}
def gN (i : Nat) : VTG := fun d env Q => Q (env.set i (.sh d))
theorem vg_name {i : Nat} {x : Str} {pos : Pos} (hN : X.N.Nodup) (hi : X.N[i]? = some x) (hx : Loc X.env.scope x) (hf : X.fn x = true ∨ X.env.scope.names.lookup x = some .local := by first | exact .inl rfl | exact .inr rfl | assumption) : VG X (.Name x pos) (gN i) :=
  ⟨_, pg_name hN hi hx hf, fun F env σ G H d v Q Qh k r h q => q _ _ (k.put (i := i) (s := .sh d) ⟨v, rfl, r⟩ fun a ha => by cases ha) h⟩
def gT (t : VTGs) : VTG := fun d env Q => ∃ ds, d = .tup ds ∧ t ds env Q
def gsN (n : Nat) : VTGs := fun ds env Q => ds.length = n ∧ Q env
def gsC (t : VTG) (u : VTGs) : VTGs := fun ds env Q => ∃ d r, ds = d :: r ∧ t d env (fun env' => u r env' Q)
theorem vgs_nil : VGs X [] (gsN 0) := ⟨_, pgs_nil, fun F env σ G H ds vs Q Qh k r h q => by
  obtain ⟨hl, h⟩ := h
  have : ds = [] := List.length_eq_zero_iff.mp hl
  subst this
  simp only [Reps] at r; subst r
  exact ⟨rfl, q _ _ k h⟩⟩
theorem vgs_cons {e : Expr} {es : List Expr} {t : VTG} {u : VTGs} (h1 : VG X e t) (h2 : VGs X es u) (hs : (assignEach (e :: es) X.env).map (·.2) = assign e X.env :: (assignEach es X.env).map (·.2) := by rfl) : VGs X (e :: es) (gsC t u) := by
  obtain ⟨g1, p1, s1⟩ := h1.ex
  obtain ⟨g2, p2, s2⟩ := h2.ex
  refine ⟨_, pgs_cons p1 p2 hs, fun F env σ G H ds vs Q Qh k r h q => ?_⟩
  obtain ⟨d, rest, rfl, h⟩ := h
  simp only [Reps] at r
  obtain ⟨x, xr, rfl, r1, r2⟩ := r
  exact ⟨x, xr, rfl, s1 F env σ G H d x _ _ k r1 h fun env' σ' k' h' => s2 F env' σ' G H rest xr Q Qh k' r2 h' q⟩
theorem vg_tup {es : List Expr} {k0 n : Nat} {t : VTGs} {pos : Pos} (hc : X.calm = true) (h : VGs X es t) (hl : ∀ ds env Q, t ds env Q → ds.length = n)
    (hn : (assignEach es X.env).length = n := by rfl) (hst : (assignEach es X.env).findIdx? (·.1) = none := by rfl) : VG X (.Tuple es k0 pos) (gT t) := by
  obtain ⟨g, p, s⟩ := h.ex
  refine ⟨_, pg_tup hc p hn hst, fun F env σ G H d v Q Qh k r h q => ?_⟩
  obtain ⟨ds, rfl, h⟩ := h
  obtain ⟨a, xs, rfl, g1, h1, z, rs⟩ := RdR.tup k.sub (.inl r)
  exact ⟨a, xs, rfl, .inl (.inl h1), by rw [rs.len]; exact hl _ _ _ h, s F env σ G H ds xs Q Qh k rs h q⟩
theorem gsN_len {n : Nat} {ds : List D} {env : En} {Q : En → Prop} (h : gsN n ds env Q) : ds.length = n := h.1
theorem gsC_len {n : Nat} {t : VTG} {u : VTGs} (hl : ∀ ds env Q, u ds env Q → ds.length = n) (ht : ∀ d env Q, t d env Q → ∃ env', Q env') : ∀ ds env Q, gsC t u ds env Q → ds.length = n + 1 := fun ds env Q ⟨d, r, e, h⟩ => by
  obtain ⟨env', h'⟩ := ht _ _ _ h
  rw [e, List.length_cons, hl _ _ _ h']
theorem gN_any {i : Nat} : ∀ d env Q, gN i d env Q → ∃ env', Q env' := fun d env Q h => ⟨_, h⟩
/-! ### assignment to a tuple of names -/
def sAsg (te : VTE) (t : VTG) : VTS := fun D env => te env (fun d env1 => t d env1 D.nx) D.ex
theorem vs_asg {e tg : Expr} {te : VTE} {t : VTG} {pos : Pos} (he : VE X W e te) (hg : VG X tg t) (hs : swapsWithSole [tg] e pos.line X.env = pure false := by rfl) (hw : swappedStores [tg] e X.env = pure none := by rfl)
    (h1 : (assignEach [tg] X.env).map (·.2) = [assign tg X.env] := by rfl) : VS X W (.Assign [tg] e pos) (sAsg te t) := by
  obtain ⟨pa, p1, s1⟩ := he.ex
  obtain ⟨g, p2, s2⟩ := hg.ex
  refine ⟨_, ps_asg p1 p2 hs hw h1, fun F env σ G H D DD k c h => ?_⟩
  refine s1 F env σ G H _ D.ex _ k c.ex h fun d env1 v G1 H1 k1 g1 r1 h2 => ?_
  exact s2 F env1 σ G1 H1 d v D.nx _ k1 r1 h2 fun env' σ' k' hq => c.nx _ _ G1 H1 k' hq
/-! ### for over a tuple of names -/
def sForG (ti : VTI) (t : VTG) (tb : VTS) : VTS := fun D env => ti env (fun ds env1 => ∃ I : Nat → En → Prop, I 0 env1 ∧ (∀ n d env, ds[n]? = some d → I n env → t d env (fun env' => tb { D with nx := I (n + 1), ct := I (n + 1), bk := D.nx } env')) ∧ ∀ env, I ds.length env → D.nx env) D.ex
theorem vs_forG {tg iter : Expr} {body : List Stmt} {pos : Pos} {ti : VTI} {t : VTG} {tb : VTS} (cx : VC X W k) (h : VI X W tg iter ti) (hg : VG X tg t) (hb : VSs X W body tb)
    (hs : ∀ x, foldedSetIterable iter X.env x = pure x := by intro _; rfl) : VS X W (.For tg iter body [] pos) (sForG ti t tb) := by
  obtain ⟨pi, p1, s1⟩ := h.ex
  obtain ⟨pb, p2, s2⟩ := hb.ex
  obtain ⟨g, p3, s3⟩ := hg.ex
  refine ⟨_, ps_for cx.po cx.calm p1 p3 p2 hs, fun F env σ G H D DD k c h => ?_⟩
  refine s1 F env σ G H _ D.ex _ k c.ex h fun J ds env1 G1 H1 k1 g1 J1 ⟨I, h0, hst, hd⟩ => ?_
  refine ⟨fun n m σ H => m = ds.length - n ∧ n ≤ ds.length ∧ ∃ env G, Ok X.K (F.reG G1) env σ G H ∧ I n env, ⟨ds.length, by simp, Nat.zero_le _, env1, G1, k1.reG, h0⟩, ?_⟩
  rintro n m σ H ⟨rfl, hn, env, G, k, hI⟩
  have kF := k1.unG k
  obtain ⟨j1, j2, j3⟩ := J1 F env σ G H n kF k.g0
  by_cases hlt : n < ds.length
  · refine .inr ⟨j1 hlt, fun σ' H' => ∃ env G, Ok X.K (F.reG G1) env σ' G H' ∧ I (n + 1) env, fun σ' H' ⟨env, G, k, hI⟩ => ⟨ds.length - (n + 1), by omega, rfl, hlt, env, G, k, hI⟩, fun y H' hy => ?_⟩
    obtain ⟨G', g', k', r⟩ := j3 y H' hy _ (List.getElem?_eq_getElem hlt)
    have k'' : Ok X.K (F.reG G1) env σ G' H' := k1.reG' k' (k.g0.trans g')
    have body := hst n _ env (List.getElem?_eq_getElem hlt) hI
    refine s3 (F.reG G1) env σ G' H' _ y _ _ k'' r body fun env' σ' kp hb' => ?_
    exact s2 (F.reG G1) _ _ G' H' { D with nx := I (n + 1), ct := I (n + 1), bk := D.nx } _ kp
      ⟨fun env σ G H k h => ⟨env, G, k, h⟩, fun r env σ G H v k ro h => c.rt r env σ G H v (k1.unG k) ro h, fun env σ G H k h => c.nx env σ G H (k1.unG k) h, fun env σ G H k h => ⟨env, G, k, h⟩, c.ex.reG k1⟩ hb'
  · have e : n = ds.length := by omega
    subst e
    exact .inl ⟨j2 (Nat.le_refl _), c.nx _ _ _ _ kF (hd env hI)⟩
end
/-! ### defs whose exceptions may have been made while another was handled -/
section
variable {P : Program} {w : World} {K : PySem.W.Frag} {mg : Str → Option Value} {base : Heap} {x : Str} {ps : List Str} {j k : Nat} {S S' : VSp}
theorem VFnW.imp (h : VFnW P w K mg base j x ps S) (i : ∀ args QV EV, S' args QV EV → S args QV EV) : VFnW P w K mg base j x ps S' := by
  obtain ⟨⟨fd, f, b⟩, kp, gl⟩ := h
  exact ⟨⟨fd, f.imp fun vs H Q E ⟨l, G, args, QV, EV, h1, h2, h3, h4⟩ => ⟨l, G, args, QV, EV, h1, h2, i _ _ _ h3, h4⟩, b⟩, kp, gl⟩
theorem VFnW.mono (h : VFnW P w K mg base j x ps S) (hj : j ≤ k) : VFnW P w K mg base k x ps S := by
  obtain ⟨⟨fd, f, b⟩, kp, gl⟩ := h
  exact ⟨⟨fd, f.mono hj, b⟩, kp, gl⟩
end
end VL
set_option linter.all false
set_option maxRecDepth 100000
set_option maxHeartbeats 4000000
/-! simp rules for VL26, VL27 -/
namespace VL
open PySem PySem.Spec PyProof.Rows L2
def asTup : D → Option (List D)
  | .tup ds => some ds
  | _ => none
theorem asTup_eq {d : D} {ds : List D} : (asTup d = some ds) = (d = .tup ds) := by cases d <;> simp [asTup]
@[simp] theorem asTup_tup {ds : List D} : asTup (.tup ds) = some ds := rfl
@[simp ↓] theorem o_copy {tb : VTB} {env : En} {Q : Sv → En → Prop} {E : XQ} : oCopy tb env Q E = tb env (fun b env1 => bq ((b.get env1).bind asDct) fun kvs => Q (.ow (.dct kvs)) env1) E := by
  simp only [oCopy, bq, asDct_eq]
@[simp ↓] theorem o_dget2 {td tk : VTB} {tx : VTE} {env : En} {Q : D → En → Prop} {E : XQ} : oDGet2 td tk tx env Q E = td env (fun c env1 => (bq ((c.get env1).bind asDct) fun _ => True) ∧ tk env1 (fun b env2 => tx env2 (fun x env3 => bq ((c.get env3).bind asDct) fun kvs => bq ((b.get env3).bind keyD) fun key => Q ((valD kvs key).getD x) env3) E) E) E := by
  have e : ∀ (c b : Br) (env3 : En) (x : D), (∃ kvs y key, c.get env3 = some (.dct kvs) ∧ b.get env3 = some y ∧ keyD y = some key ∧ Q ((valD kvs key).getD x) env3) = (bq ((c.get env3).bind asDct) fun kvs => bq ((b.get env3).bind keyD) fun key => Q ((valD kvs key).getD x) env3) := fun c b env3 x => by
    apply propext
    simp only [bq]
    constructor
    · rintro ⟨kvs, y, key, h1, h2, h3, h4⟩; exact ⟨kvs, Eq.mpr asDct_eq h1, key, Option.bind_eq_some_iff.mpr ⟨y, h2, h3⟩, h4⟩
    · rintro ⟨kvs, h1, key, h2, h4⟩
      obtain ⟨y, h2, h3⟩ := Option.bind_eq_some_iff.mp h2
      exact ⟨kvs, y, key, Eq.mp asDct_eq h1, h2, h3, h4⟩
  simp only [oDGet2, e, bq, asDct_eq, and_true]
@[simp ↓] theorem o_dpop1 {i : Nat} {tk : VTB} {env : En} {Q : D → En → Prop} {E : XQ} : oDPop1 i tk env Q E = ((bq ((own env i).bind asDct) fun _ => True) ∧ tk env (fun b env1 => bq ((own env1 i).bind asDct) fun kvs => bq ((b.get env1).bind keyD) fun key => bq (valD kvs key) fun d => Q d (setS env1 i (.dct (dropD kvs key)))) E) := by
  have e : ∀ (b : Br) (env1 : En), (∃ kvs y key d, own env1 i = some (.dct kvs) ∧ b.get env1 = some y ∧ keyD y = some key ∧ valD kvs key = some d ∧ Q d (setS env1 i (.dct (dropD kvs key)))) = (bq ((own env1 i).bind asDct) fun kvs => bq ((b.get env1).bind keyD) fun key => bq (valD kvs key) fun d => Q d (setS env1 i (.dct (dropD kvs key)))) := fun b env1 => by
    apply propext
    simp only [bq]
    constructor
    · rintro ⟨kvs, y, key, d, h1, h2, h3, h4, h5⟩; exact ⟨kvs, Eq.mpr asDct_eq h1, key, Option.bind_eq_some_iff.mpr ⟨y, h2, h3⟩, d, h4, h5⟩
    · rintro ⟨kvs, h1, key, h2, d, h4, h5⟩
      obtain ⟨y, h2, h3⟩ := Option.bind_eq_some_iff.mp h2
      exact ⟨kvs, y, key, d, Eq.mp asDct_eq h1, h2, h3, h4, h5⟩
  simp only [oDPop1, e, bq, asDct_eq, and_true]
@[simp ↓] theorem o_kget {l : List (Str × Option Int)} {tk : VTB} {tx : VTE} {env : En} {Q : D → En → Prop} {E : XQ} : oKGet l tk tx env Q E = tk env (fun b env1 => tx env1 (fun x env2 => bq ((b.get env2).bind asStr) fun z => ∃ o, (z, o) ∈ l ∧ Q (kgV o x) env2) E) E := by
  have e : ∀ (b : Br) (env2 : En) (x : D), (∃ z o, b.get env2 = some (.str z) ∧ (z, o) ∈ l ∧ Q (kgV o x) env2) = (bq ((b.get env2).bind asStr) fun z => ∃ o, (z, o) ∈ l ∧ Q (kgV o x) env2) := fun b env2 x => by
    apply propext
    simp only [bq, Option.bind_eq_some_iff, asStr_eq]
    constructor
    · rintro ⟨z, o, h1, h2, h3⟩; exact ⟨z, ⟨_, h1, rfl⟩, o, h2, h3⟩
    · rintro ⟨z, ⟨_, h1, rfl⟩, o, h2, h3⟩; exact ⟨z, o, h1, h2, h3⟩
  simp only [oKGet, e]
@[simp] theorem kgV_some {i : Int} {x : D} : kgV (some i) x = .int i := rfl
@[simp] theorem kgV_none {x : D} : kgV none x = x := rfl
@[simp] theorem keyD_str {z : Str} : keyD (.str z) = some (.inr z) := rfl
@[simp ↓] theorem s_asg {te : VTE} {t : VTG} {N : VEnds} {env : En} : sAsg te t N env = te env (fun d env1 => t d env1 N.nx) N.ex := rfl
@[simp ↓] theorem g_n {i : Nat} {d : D} {env : En} {Q : En → Prop} : gN i d env Q = Q (env.set i (.sh d)) := rfl
@[simp ↓] theorem g_t {t : VTGs} {d : D} {env : En} {Q : En → Prop} : gT t d env Q = bq (asTup d) fun ds => t ds env Q := by simp only [gT, bq, asTup_eq]
@[simp ↓] theorem g_c {t : VTG} {u : VTGs} {d : D} {r : List D} {env : En} {Q : En → Prop} : gsC t u (d :: r) env Q = t d env (fun env' => u r env' Q) := by
  apply propext
  simp only [gsC, List.cons.injEq]
  constructor
  · rintro ⟨_, _, ⟨rfl, rfl⟩, h⟩; exact h
  · intro h; exact ⟨_, _, ⟨rfl, rfl⟩, h⟩
@[simp ↓] theorem g_nil {env : En} {Q : En → Prop} : gsN 0 [] env Q = Q env := by simp [gsN]
/-- a loop over ds, each taken apart -/
def lpG (ds : List D) (t : VTG) (tb : VTS) (N : VEnds) (env1 : En) : Prop := ∃ I : Nat → En → Prop, I 0 env1 ∧ (∀ n d env, ds[n]? = some d → I n env → t d env (fun env' => tb { N with nx := I (n + 1), ct := I (n + 1), bk := N.nx } env')) ∧ ∀ env, I ds.length env → N.nx env
@[simp ↓] theorem s_forG {ti : VTI} {t : VTG} {tb : VTS} {N : VEnds} {env : En} : sForG ti t tb N env = ti env (fun ds env1 => lpG ds t tb N env1) N.ex := rfl
/-- [x], x a name that moves -/
def b1q (s : Option Sv) (env : En) (i : Nat) (Q : Sv → En → Prop) : Prop := match s with
  | some (.sh m) => Q (.ow (.lst [m])) env
  | some (.ow m) => isCon m = true ∧ ∀ p, Q (.ow (.box .lst [(m, some p)])) (env.set i .un)
  | _ => False
@[simp ↓] theorem o_bx1 {i : Nat} {env : En} {Q : Sv → En → Prop} {E : XQ} : oBx1 i env Q E = b1q env[i]? env i Q := rfl
@[simp ↓] theorem b1_sh {m : D} {env : En} {i : Nat} {Q : Sv → En → Prop} : b1q (some (.sh m)) env i Q = Q (.ow (.lst [m])) env := rfl
@[simp ↓] theorem b1_ow {m : D} {env : En} {i : Nat} {Q : Sv → En → Prop} : b1q (some (.ow m)) env i Q = (isCon m = true ∧ ∀ p, Q (.ow (.box .lst [(m, some p)])) (env.set i .un)) := rfl
def b2q (s : Option Sv) (d : D) (env : En) (i : Nat) (Q : Sv → En → Prop) : Prop := match s with
  | some (.sh m) => Q (.sh (.tup [d, m])) env
  | some (.ow m) => isCon m = true ∧ ∀ p, Q (.ow (.box .tup [(d, none), (m, some p)])) (env.set i .un)
  | _ => False
@[simp ↓] theorem o_bx2 {te : VTE} {i : Nat} {env : En} {Q : Sv → En → Prop} {E : XQ} : oBx2 te i env Q E = te env (fun d env1 => b2q env1[i]? d env1 i Q) E := rfl
@[simp ↓] theorem b2_sh {m d : D} {env : En} {i : Nat} {Q : Sv → En → Prop} : b2q (some (.sh m)) d env i Q = Q (.sh (.tup [d, m])) env := rfl
@[simp ↓] theorem b2_ow {m d : D} {env : En} {i : Nat} {Q : Sv → En → Prop} : b2q (some (.ow m)) d env i Q = (isCon m = true ∧ ∀ p, Q (.ow (.box .tup [(d, none), (m, some p)])) (env.set i .un)) := rfl
@[simp] theorem isCon_lst {ds : List D} : isCon (.lst ds) = true := rfl
@[simp] theorem isCon_dct {kvs : List (Key × D)} : isCon (.dct kvs) = true := rfl
@[simp] theorem bxAt_def {env : En} {i j : Nat} : bxAt env i j = (match env[i]? with
  | some (.ow (.box .lst fs)) => (fs[j]?).bind fun f => f.2.map fun p => (f.1, p)
  | some (.ow (.box .tup fs)) => (fs[j]?).bind fun f => f.2.map fun p => (f.1, p)
  | _ => none) := rfl
@[simp] theorem popq_some {d : D} {Qd : D → Prop} {Qn : Prop} : popq (some d) Qd Qn = Qd d := rfl
@[simp] theorem popq_none {Qd : D → Prop} {Qn : Prop} : popq none Qd Qn = Qn := rfl
@[simp ↓] theorem o_dpop2 {i : Nat} {tk : VTB} {tx : VTE} {env : En} {Q : D → En → Prop} {E : XQ} : oDPop2 i tk tx env Q E = ((bq ((own env i).bind asDct) fun _ => True) ∧ tk env (fun b env1 => bq ((b.get env1).bind keyD) fun key => tx env1 (fun x env2 => bq ((own env2 i).bind asDct) fun kvs => popq (valD kvs key) (fun d => Q d (setS env2 i (.dct (dropD kvs key)))) (Q x env2)) E) E) := by
  have e : ∀ (b : Br) (env1 : En), (∃ y key, b.get env1 = some y ∧ keyD y = some key ∧ tx env1 (fun x env2 => ∃ kvs, own env2 i = some (.dct kvs) ∧ popq (valD kvs key) (fun d => Q d (setS env2 i (.dct (dropD kvs key)))) (Q x env2)) E) = (bq ((b.get env1).bind keyD) fun key => tx env1 (fun x env2 => bq ((own env2 i).bind asDct) fun kvs => popq (valD kvs key) (fun d => Q d (setS env2 i (.dct (dropD kvs key)))) (Q x env2)) E) := fun b env1 => by
    apply propext
    simp only [bq, asDct_eq]
    constructor
    · rintro ⟨y, key, h1, h2, h3⟩; exact ⟨key, Option.bind_eq_some_iff.mpr ⟨y, h1, h2⟩, h3⟩
    · rintro ⟨key, h1, h3⟩
      obtain ⟨y, h1, h2⟩ := Option.bind_eq_some_iff.mp h1
      exact ⟨y, key, h1, h2, h3⟩
  simp only [oDPop2, e, bq, asDct_eq, and_true]
def tryAl (m : Str → Option Bool) (i : Nat) (u : VTS) (N : VEnds) : XQ := fun C fs env1 => match m C with
  | some true => u { nx := fun e => N.nx (e.set i .un), rt := N.rt, bk := fun e => N.bk (e.set i .un), ct := fun e => N.ct (e.set i .un) } (env1.set i (.sh (.exc C fs)))
  | _ => False
@[simp ↓] theorem s_tryAll {m : Str → Option Bool} {i : Nat} {t u : VTS} {N : VEnds} {env : En} : sTryAll m i t u N env = t { N with ex := tryAl m i u N } env := rfl
theorem tryAl_yes {m : Str → Option Bool} {i : Nat} {u : VTS} {N : VEnds} {C : Str} {fs : List (Str × D)} {env1 : En} (h : m C = some true) : tryAl m i u N C fs env1 = u { nx := fun e => N.nx (e.set i .un), rt := N.rt, bk := fun e => N.bk (e.set i .un), ct := fun e => N.ct (e.set i .un) } (env1.set i (.sh (.exc C fs))) := by unfold tryAl; rw [h]
/-! a module's table -/
def ktB (K : PySem.W.Frag) (a : Addr) (l : List (Str × Option Int)) : Bool := !(a == sysModules) && l.all fun p => match p.2, PySem.W.nsIn K a p.1 with
  | some i, some (some (.int j _)) => decide (j = i)
  | none, some none => true
  | _, _ => false
theorem ktB_ok {K : PySem.W.Frag} {w : World} {mg : Str → Option Value} {x : Str} {a : Addr} {l : List (Str × Option Int)} (hm : mg x = some (.ref a)) (hd : ∃ es n, KDict K w a es n) (h : ktB K a l = true) : KTab K w mg x l := by
  obtain ⟨es, n, hk⟩ := hd
  simp only [ktB, Bool.and_eq_true, Bool.not_eq_true'] at h
  refine ⟨a, es, n, hm, hk.at_, hk.lit, h.1, fun z o hz => ?_⟩
  have hp := List.all_eq_true.mp h.2 _ hz
  cases o with
  | some i =>
    cases hn : PySem.W.nsIn K a z with
    | none => simp [hn] at hp
    | some r =>
      cases r with
      | none => simp [hn] at hp
      | some v =>
        cases v <;> simp [hn] at hp
        subst hp
        exact ⟨_, rfl⟩
  | none =>
    cases hn : PySem.W.nsIn K a z with
    | none => simp [hn] at hp
    | some r =>
      cases r with
      | none => rfl
      | some v => simp [hn] at hp
end VL
set_option linter.all false
set_option maxRecDepth 100000
set_option maxHeartbeats 2000000
namespace VL
open PySem PySem.Spec PyProof.Rows L2
/-! ## exceptions with an `__init__` of their own: one field -/
/-- what C's `__init__` of one field keeps -/
def spI1 (C : Addr) (f : Str) : Sp := fun vs H Q E => ∃ (a : Addr) (y : V), vs = [.ref a, y] ∧ H a = some (exo a C none) ∧ ∀ dx, H dx = none → dx ≠ a → Q .non (upd (upd H dx (exd dx [(f, y)])) a (exo a C (some dx)))
theorem init1_ok {P : Program} {w : World} {K : PySem.W.Frag} {mg : Str → Option Value} {base : Heap} {CX : CXT} {k : Nat} {x qual : Str} {params : Arguments} {scope : Scope} {fI C : Addr} {fd : FuncData} {self n f : Str} {p p' q pos : Pos}
    (Fd : FunD K x qual params [.Assign [.Attribute (.Name self p) f p'] (.Name n q) pos] scope [] [] fI fd) (Sc : FnScope [self, n] [self, n] scope) (T : OexC K C) (hno : PySem.W.findIn K (.ref C) f = some none)
    (v0 : Vis scope self) (v1 : Vis scope n) (d0 : (self == ("__debug__" : Str)) = false := by decide) (d1 : (n == ("__debug__" : Str)) = false := by decide) (c0 : (self == ("__classdict__" : Str)) = false := by decide) (c1 : (n == ("__classdict__" : Str)) = false := by decide) : FnOk P w K mg base CX (k + 1) fI fd [self, n] (spI1 C f) := by
  refine Fd.ok Sc (fun vs H Q E h => by obtain ⟨a, y, rfl, _⟩ := h; rfl) fun cdv A outer s H vs Q E hr hsp => ?_
  obtain ⟨a, y, rfl, ha, hq⟩ := hsp
  refine ⟨_, pss_one (ps_ost (pe_var (i := 0) rfl v0 d0 c0) (pe_var (i := 1) rfl v1 d1 c1)), ?_⟩
  refine ⟨y, rfl, V.ref a, rfl, a, C, rfl, T, hno, .inl ⟨ha, fun dx h1 h2 => ?_⟩⟩
  exact hq dx h1 h2
section
variable {X : Cx} {W : WX} {K : PySem.W.Frag} {F : FrD} {env env' : En} {σ σ' : L2.St} {G H G' H' : Hp} {d : D} {v : V} {p a : Addr} {vs : List V} {ds : List D} {k : Nat} {o o' : HO}
/-- raise C(e), C's __init__ storing e as f -/
def sRaiseF (C f : Str) (ta : VTA) : VTS := fun D env => ta env (fun bs env1 => ∃ d, vals bs = some [d] ∧ D.ex C [(f, d)] env1) D.ex
theorem mk_heap {H1 : Hp} {a dx C : Addr} {f : Str} {w : V} (ha : H1 a = none) (hd : dx ≠ a) : upd (del (upd (upd (upd H1 a (exo a C none)) dx (exd dx [(f, w)])) a (exo a C (some dx))) a) dx (.xd [(f, w)]) = upd H1 dx (.xd [(f, w)]) := by
  funext b
  by_cases h1 : b = dx
  · subst h1; rw [upd_same, upd_same]
  · rw [upd_ne h1, upd_ne h1]
    by_cases h2 : b = a
    · subst h2; rw [del_same, ha]
    · rw [del_ne h2, upd_ne h2, upd_ne h1, upd_ne h2]
theorem snd_mkF {C f : Str} {ta : VTA} {pa : TA} {N : VEnds} {Wq : Value → Option Addr → L2.St → Hp → Prop} (s1 : SndA X.K W pa ta) (k : Ok X.K F env σ G H) (xo : XOk X.K F W N.ex) (xq : XOk X.K F Wq N.ex)
    (h : sRaiseF C f ta N env) : tMkO (He.ga X.K C) (spI1 (He.ga X.K C) f) [] pa σ H fun cls d H' => Wq cls d σ H' := by
  refine s1 F env σ G H _ _ _ k xo h fun bs env1 vs G1 H1 k1 g1 r1 ⟨d, ev, hq⟩ => ?_
  have rs := vals_reps r1 ev
  simp only [Reps] at rs
  obtain ⟨w, r, rfl, rw1, rfl⟩ := rs
  refine ⟨by simp, fun a ha => ⟨a, w, rfl, upd_same, fun dx h1 h2 => ⟨rfl, dx, [(f, w)], upd_same, ?_, ?_, ?_⟩⟩⟩
  · rw [upd_ne h2, upd_same]
  · rwa [upd_ne h2] at h1
  · have hd1 : H1 dx = none := by rwa [upd_ne h2] at h1
    rw [mk_heap ha h2]
    refine xq C [(f, d)] env1 σ G1 _ (k1.alloc (o := .xd [(f, w)]) hd1) hq _ _ ⟨rfl, .inr ⟨dx, [(f, w)], rfl, upd_same, ?_, k1.gnone hd1, k1.fnone hd1⟩⟩
    simp only [Repf]
    exact ⟨w, [], rfl, rw1, rfl⟩
theorem vs_raiseF {C f : Str} {fI : Addr} {fd : FuncData} {ps : List Str} {p pos pos' : Pos} {e : Expr} {ta : VTA} (cx : VCw X W k) (T : OexC X.K (He.ga X.K C)) (iC : PySem.W.findIn X.K (.ref (He.ga X.K C)) "__init__" = some (some (.ref fI))) (tI : PySem.W.typeIn X.K (.ref fI) = some (.type "function"))
    {j : Nat} (F1 : FnOk X.prog X.w X.K X.mg X.base (L2.CX X.prog X.w) j fI fd ps (spI1 (He.ga X.K C) f)) (hj : j + 1 ≤ k) (hb : Binds X.K fd ps []) (hg : Gl X C) (gC : X.mg C = some (.ref (He.ga X.K C))) (ha : VA X W [e] ta)
    (hdb : (C == ("__debug__" : Str)) = false := by decide) (he : starEach [e] X.env = (false, eval e X.env) :: starEach [] X.env := by rfl) (hpl : (backTo pos (starEach [] X.env)).any (·.1) = false := by rfl) :
    VS X W (.Raise (some (.Call (.Name C p) [e] [] pos)) none pos') (sRaiseF C f ta) := by
  obtain ⟨pa, p1, s1⟩ := ha.ex
  refine ⟨_, L2.ps_raise cx.calm cx.tkw (L2.pmk_oex T iC tI F1 (cx.hr.mono hj) hb .nil (fun pins σ H s e s1 I c => L2.passes_call cx.tkw (fun _ _ _ _ h => h.elim) pins σ H s e s1 I c) hg gC p1 hdb he hpl), fun F env σ G H D DD k c h => ?_⟩
  exact snd_mkF (N := D) s1 k c.ex c.ex h
/-- try: body, except x: raise C2(e) from None -/
def sTryOnlyR (m : Str → Option Bool) (t : VTS) (C2 f : Str) (ta : VTA) : VTS := fun N env => t { N with ex := fun C fs env1 => match m C with
  | some true => sRaiseF C2 f ta N env1
  | some false => N.ex C fs env1
  | none => False } env
theorem vs_tryOnlyR {x : Str} {c : Value} {body : List Stmt} {np pos pos' rpos cpos cp2 p : Pos} {t : VTS} {m : Str → Option Bool} {C2 f : Str} {fI : Addr} {fd : FuncData} {ps : List Str} {e : Expr} {ta : VTA} {jn : Nat} {j : Nat} (cx : VCw X W k) (hs : X.stack = X.env :: X.outer) (hf : X.env.frame = some X.env.locals) (hc : Names X x c)
    (hm : ∀ C b, m C = some b → PySem.W.exmOne X.K (.ref (He.ga X.K C)) c = some b)
    (hb : ∀ (W : WX) (pn : List (Addr × Obj)) (xe : Value → Shared → Prop), VC (X.tr pn xe) W k → VSs (X.tr pn xe) W body t)
    (T : OexC X.K (He.ga X.K C2)) (iC : PySem.W.findIn X.K (.ref (He.ga X.K C2)) "__init__" = some (some (.ref fI))) (tI : PySem.W.typeIn X.K (.ref fI) = some (.type "function"))
    (F1 : L2H.FnH X.prog X.w X.K X.mg X.base (L2.CX X.prog X.w) j fI fd ps (spI1 (He.ga X.K C2) f)) (hj : j + 1 ≤ k) (hbd : Binds X.K fd ps []) (hg : Gl X C2) (gC : X.mg C2 = some (.ref (He.ga X.K C2))) (ha : ∀ (a : Addr) (pn : List (Addr × Obj)), VA (L2H.suiteX X a pn) W [e] ta)
    (hdb : (C2 == ("__debug__" : Str)) = false := by decide) (he : starEach [e] X.env = (false, eval e X.env) :: starEach [] X.env := by rfl) (hpl : (backTo cpos (starEach [] X.env)).any (·.1) = false := by rfl) :
    VS X W (.Try body [.ExceptHandler (some (.Name x np)) none [.Raise (some (.Call (.Name C2 p) [e] [] cpos)) (some (.Constant .none jn cp2)) rpos] pos'] [] [] pos) (sTryOnlyR m t C2 f ta) := by
  refine ⟨_, L2H.ps_try_onlyX (c := c) (ts := fun _ _ _ D σ H => ∃ F env G N, Ok X.K F env σ G H ∧ sRaiseF C2 f ta N env ∧ XOk X.K F W N.ex) (tb := fun W' D σ H => ∃ F env G DD', Ok X.K F env σ G H ∧ t DD' env ∧ Comp X.K F W' DD' D) hs hf hc cx.pa cx.tkw (fun W' pn xe tk tk2 po => ?_) (fun a oe cls d pn hz hv tkS hot => ?_), fun F env σ G H D DD k c h => ?_⟩
  · obtain ⟨ts, p1, s1⟩ := (hb W' pn xe ⟨cx.calm, tk, po, cx.hr, cx.nd⟩).ex
    exact ⟨fun pins s σ H D I ⟨F, env, G, DD', k, h, c⟩ => p1.run pins s σ H D I (s1 F env σ G H DD' D k c h)⟩
  · obtain ⟨pa, p1, s1⟩ := (ha a ((a, oe) :: pn)).ex
    have P := pss_one (L2H.ps_raiseHN (pos := rpos) (cpos := cp2) (j := jn) hot tkS (L2H.pmk5_oexH (X := L2H.suiteX X a ((a, oe) :: pn)) (p := p) T iC tI F1 (L2H.roomH_mark (cx.hr.mono hj) _) hot hbd (fun pins σ H s e s1 I c => L2.passes_call tkS (fun _ _ _ _ h => h.elim) pins σ H s e s1 I c) hg gC p1 hdb he hpl))
    exact ⟨fun pins s σ H D I ⟨F, env, G, N, k, h, xo⟩ => P.run pins s σ H D I (snd_mkF (X := L2H.suiteX X a ((a, oe) :: pn)) (N := N) s1 k xo xo h)⟩
  · refine ⟨F, env, G, _, k, h, ⟨c.nx, c.rt, c.bk, c.ct, ?_⟩⟩
    intro C fs env1 σ1 G1 H1 k1 he cls d xr
    dsimp only at he
    cases e : m C with
    | none => rw [e] at he; exact he.elim
    | some b =>
      rw [e] at he
      have ec := xr.1
      have hb1 := hm C b e
      rw [← ec] at hb1
      refine ⟨b, hb1, fun hb a ha => ?_, fun hb => ?_⟩
      · subst hb
        exact ⟨F, env1, G1, _, k1, he, c.ex⟩
      · subst hb
        exact c.ex C fs env1 σ1 G1 H1 k1 he cls d xr
end
theorem init1_okH {P : Program} {w : World} {K : PySem.W.Frag} {mg : Str → Option Value} {base : Heap} {CX : CXT} {k : Nat} {x qual : Str} {params : Arguments} {scope : Scope} {fI C : Addr} {fd : FuncData} {self n f : Str} {p p' q pos : Pos}
    (Fd : FunD K x qual params [.Assign [.Attribute (.Name self p) f p'] (.Name n q) pos] scope [] [] fI fd) (Sc : FnScope [self, n] [self, n] scope) (T : OexC K C) (hno : PySem.W.findIn K (.ref C) f = some none)
    (v0 : Vis scope self) (v1 : Vis scope n) (d0 : (self == ("__debug__" : Str)) = false := by decide) (d1 : (n == ("__debug__" : Str)) = false := by decide) (c0 : (self == ("__classdict__" : Str)) = false := by decide) (c1 : (n == ("__classdict__" : Str)) = false := by decide) : L2H.FnH P w K mg base CX (k + 1) fI fd [self, n] (spI1 C f) := by
  obtain ⟨oc, od, dV, kV, doc, pm, an, cdv, ct, osl, rfl, lk, hcd, _, _⟩ := Fd.ex
  refine L2H.fn_ofH lk hcd Sc (fun vs H Q E h => by obtain ⟨a, y, rfl, _⟩ := h; rfl) fun A outer s H vs Q E p hot hr hsp => ?_
  obtain ⟨a, y, rfl, ha, hq⟩ := hsp
  refine ⟨_, pss_one (ps_ost (pe_var (i := 0) rfl v0 d0 c0) (pe_var (i := 1) rfl v1 d1 c1)), ?_⟩
  refine ⟨y, rfl, V.ref a, rfl, a, C, rfl, T, hno, .inl ⟨ha, fun dx h1 h2 => ?_⟩⟩
  exact hq dx h1 h2
def oexB (K : PySem.W.Frag) (C : Addr) : Bool := (match K.lookup C with
  | some ⟨.type "type", _, .cls cd, sl⟩ => (match cd.mro, sl.toList with
    | .ref C' :: bm, [_, _, _, _, some (.builtin n), _] => C' == C && n == "ValueError.__new__" && !cd.hasDel && cd.hasDict && PySem.HandSPX.refsVE bm
    | _, _ => false)
  | _ => false) && (decide (PySem.W.findIn K (.ref C) "__setattr__" = some (some (.builtin "object.__setattr__"))) && (decide (PySem.W.subIn K (.ref C) (.type "BaseException") = some true) && (decide (PySem.W.typeIn K (.ref C) = some (.type "type")) && PySem.W.keepIn K (.ref C))))
theorem oexB_ok {K : PySem.W.Frag} {C : Addr} (h : oexB K C = true) : OexC K C := by
  obtain ⟨h1, h⟩ := Bool.and_eq_true_iff.mp h
  obtain ⟨h2, h⟩ := Bool.and_eq_true_iff.mp h
  obtain ⟨h3, h⟩ := Bool.and_eq_true_iff.mp h
  obtain ⟨h4, h5⟩ := Bool.and_eq_true_iff.mp h
  refine ⟨?_, of_decide_eq_true h2, of_decide_eq_true h3, of_decide_eq_true h4, h5⟩
  split at h1
  · rename_i dd cd sl ho
    split at h1
    · rename_i C' bm k0 k1 k2 k3 n k5 hm hs
      simp only [Bool.and_eq_true, beq_iff_eq, Bool.not_eq_true'] at h1
      obtain ⟨⟨⟨⟨rfl, rfl⟩, hdel⟩, hdc⟩, ht⟩ := h1
      obtain ⟨nm, bs, mro, ns, qn, hd, sn, sub, ab, col, del⟩ := cd
      dsimp only at hm hdel hdc
      subst hm hdel hdc
      have hsl : sl = #[k0, k1, k2, k3, some (.builtin "ValueError.__new__"), k5] := by
        obtain ⟨l⟩ := sl
        simp only at hs
        rw [hs]
      subst hsl
      exact ⟨nm, qn, ns, bs, bm, sn, sub, ab, col, dd, k0, k1, k2, k3, k5, ho, ht⟩
    · cases h1
  · cases h1
/-- a class of exceptions of one field -/
structure EC (K : PySem.W.Frag) (C f : Str) : Prop where
  T : OexC K (He.ga K C)
  hno : PySem.W.findIn K (.ref (He.ga K C)) f = some none
  iC : PySem.W.findIn K (.ref (He.ga K C)) "__init__" = some (some (.ref (He.ma K (He.ga K C) "__init__")))
  tI : PySem.W.typeIn K (.ref (He.ma K (He.ga K C) "__init__")) = some (.type "function")
  xf : XfC K (He.ga K C)
def ecB (K : PySem.W.Frag) (C f : Str) : Bool := oexB K (He.ga K C) && (decide (PySem.W.findIn K (.ref (He.ga K C)) f = some none) && (decide (PySem.W.findIn K (.ref (He.ga K C)) "__init__" = some (some (.ref (He.ma K (He.ga K C) "__init__")))) && (decide (PySem.W.typeIn K (.ref (He.ma K (He.ga K C) "__init__")) = some (.type "function")) && xfB K (He.ga K C))))
theorem ecB_ok {K : PySem.W.Frag} {C f : Str} (h : ecB K C f = true) : EC K C f := by
  obtain ⟨h1, h⟩ := Bool.and_eq_true_iff.mp h
  obtain ⟨h2, h⟩ := Bool.and_eq_true_iff.mp h
  obtain ⟨h3, h⟩ := Bool.and_eq_true_iff.mp h
  obtain ⟨h4, h5⟩ := Bool.and_eq_true_iff.mp h
  exact ⟨oexB_ok h1, of_decide_eq_true h2, of_decide_eq_true h3, of_decide_eq_true h4, xfB_ok h5⟩
/-- such a class, and its `__init__` -/
structure ECf (P : Program) (w : World) (K : PySem.W.Frag) (mg : Str → Option Value) (base : Heap) (C f : Str) : Prop where
  ec : EC K C f
  gC : mg C = some (.ref (He.ga K C))
  ini : ∃ (fd : FuncData) (ps : List Str), FnOk P w K mg base (L2.CX P w) 1 (He.ma K (He.ga K C) "__init__") fd ps (spI1 (He.ga K C) f) ∧ L2H.FnH P w K mg base (L2.CX P w) 1 (He.ma K (He.ga K C) "__init__") fd ps (spI1 (He.ga K C) f) ∧ Binds K fd ps []
theorem ecf_mk {P : Program} {w : World} {K : PySem.W.Frag} {mg : Str → Option Value} {base : Heap} {C f : Str} {x qual : Str} {params : Arguments} {scope : Scope} {fd : FuncData} {self n : Str} {p p' q pos : Pos} {body : List Stmt}
    (E : EC K C f) (gC : mg C = some (.ref (He.ga K C))) (Fd : FunD K x qual params body scope [] [] (He.ma K (He.ga K C) "__init__") fd) (hbd : body = [.Assign [.Attribute (.Name self p) f p'] (.Name n q) pos]) (Sc : FnScope [self, n] [self, n] scope)
    (v0 : Vis scope self) (v1 : Vis scope n) (hb : ∀ (kV doc pm : Value) (an : Option Addr) (cdv ct : Value) (us : List Value), us.length = [self, n].length → bindArgs (PySem.W.fnOf x qual params body scope .none kV doc pm an cdv ct) ⟨us, []⟩ = pure ([self, n].zip us)) (d0 : (self == ("__debug__" : Str)) = false := by decide) (d1 : (n == ("__debug__" : Str)) = false := by decide) (c0 : (self == ("__classdict__" : Str)) = false := by decide) (c1 : (n == ("__classdict__" : Str)) = false := by decide) : ECf P w K mg base C f := by
  have bd := Fd.bindsN hb
  subst hbd
  exact ⟨E, gC, fd, [self, n], init1_ok Fd Sc E.T E.hno v0 v1 d0 d1 c0 c1, init1_okH Fd Sc E.T E.hno v0 v1 d0 d1 c0 c1, bd⟩
section
variable {X : Cx} {W : WX} {K : PySem.W.Frag} {F : FrD} {env env' : En} {σ σ' : L2.St} {G H G' H' : Hp} {d : D} {v : V} {a : Addr} {vs : List V} {ds : List D} {k : Nat} {o o' : HO}
theorem vs_raiseE {C f : Str} {p pos pos' : Pos} {e : Expr} {ta : VTA} (cx : VCw X W k) (hk : 2 ≤ k) (E : ECf X.prog X.w X.K X.mg X.base C f) (hg : Gl X C) (ha : VA X W [e] ta)
    (hdb : (C == ("__debug__" : Str)) = false := by decide) (he : starEach [e] X.env = (false, eval e X.env) :: starEach [] X.env := by rfl) (hpl : (backTo pos (starEach [] X.env)).any (·.1) = false := by rfl) :
    VS X W (.Raise (some (.Call (.Name C p) [e] [] pos)) none pos') (sRaiseF C f ta) := by
  obtain ⟨fd, ps, F1, _, hb⟩ := E.ini
  exact vs_raiseF cx E.ec.T E.ec.iC E.ec.tI F1 hk hb hg E.gC ha hdb he hpl
theorem vs_tryOnlyE {x : Str} {c : Value} {body : List Stmt} {np pos pos' rpos cpos cp2 p : Pos} {t : VTS} {m : Str → Option Bool} {C2 f : Str} {e : Expr} {ta : VTA} {jn : Nat} (cx : VCw X W k) (hk : 2 ≤ k) (hs : X.stack = X.env :: X.outer) (hf : X.env.frame = some X.env.locals) (hc : Names X x c)
    (hm : ∀ C b, m C = some b → PySem.W.exmOne X.K (.ref (He.ga X.K C)) c = some b)
    (hb : ∀ (W : WX) (pn : List (Addr × Obj)) (xe : Value → Shared → Prop), VC (X.tr pn xe) W k → VSs (X.tr pn xe) W body t)
    (E : ECf X.prog X.w X.K X.mg X.base C2 f) (hg : Gl X C2) (ha : ∀ (a : Addr) (pn : List (Addr × Obj)), VA (L2H.suiteX X a pn) W [e] ta)
    (hdb : (C2 == ("__debug__" : Str)) = false := by decide) (he : starEach [e] X.env = (false, eval e X.env) :: starEach [] X.env := by rfl) (hpl : (backTo cpos (starEach [] X.env)).any (·.1) = false := by rfl) :
    VS X W (.Try body [.ExceptHandler (some (.Name x np)) none [.Raise (some (.Call (.Name C2 p) [e] [] cpos)) (some (.Constant .none jn cp2)) rpos] pos'] [] [] pos) (sTryOnlyR m t C2 f ta) := by
  obtain ⟨fd, ps, _, F1, hbd⟩ := E.ini
  exact vs_tryOnlyR cx hs hf hc hm hb E.ec.T E.ec.iC E.ec.tI F1 hk hbd hg E.gC ha hdb he hpl
end
/-! ## to reckon with them -/
@[simp ↓] theorem s_raiseF {C f : Str} {ta : VTA} {N : VEnds} {env : En} : sRaiseF C f ta N env = ta env (fun bs env1 => ∃ d, vals bs = some [d] ∧ N.ex C [(f, d)] env1) N.ex := rfl
def tryR (m : Str → Option Bool) (C2 f : Str) (ta : VTA) (N : VEnds) : XQ := fun C fs env1 => match m C with
  | some true => sRaiseF C2 f ta N env1
  | some false => N.ex C fs env1
  | none => False
@[simp ↓] theorem s_tryR {m : Str → Option Bool} {t : VTS} {C2 f : Str} {ta : VTA} {N : VEnds} {env : En} : sTryOnlyR m t C2 f ta N env = t { N with ex := tryR m C2 f ta N } env := rfl
theorem tryR_yes {m : Str → Option Bool} {C2 f : Str} {ta : VTA} {N : VEnds} {C : Str} {fs : List (Str × D)} {env1 : En} (h : m C = some true) : tryR m C2 f ta N C fs env1 = sRaiseF C2 f ta N env1 := by unfold tryR; rw [h]
theorem tryR_no {m : Str → Option Bool} {C2 f : Str} {ta : VTA} {N : VEnds} {C : Str} {fs : List (Str × D)} {env1 : En} (h : m C = some false) : tryR m C2 f ta N C fs env1 = N.ex C fs env1 := by unfold tryR; rw [h]
@[simp ↓] theorem o_xf {C f : Str} {tb : VTB} {env : En} {Q : D → En → Prop} {E : XQ} : oXf C f tb env Q E = tb env (fun b env1 => ∃ fs d, b.get env1 = some (.exc C fs) ∧ fs.lookup f = some d ∧ Q d env1) E := rfl
/-- the i-th statement of a class's body -/
def clsM (s : Stmt) (i : Nat) : Stmt := match s with
  | .ClassDef _ _ _ body _ _ _ _ _ _ _ => body.getD i (.Pass ⟨0, 0, 0, 0⟩)
  | s => s
end VL
set_option linter.all false
set_option maxRecDepth 100000
namespace VL
open PySem PySem.Spec PyProof.Rows L2
open PySem.SeqAt PySem.AutoSeq1 PySem.MeetsSeq PySem.MeetsSeq2 PySem.MeetsSeq3 PySem.SeqRoads2
section
variable {prog : Program} {w : World}
theorem neLoopP (l b : Addr) (as bs : Array Value) (n n2 : Nat) (dd dd2 : Option Addr) (sl sl2 : Array (Option Value)) (hsz : as.size = bs.size) (k : Nat) :
    ∀ i : Nat, as.size - i = k → MeetsIn prog w (Builtin.«list.__eq__.loop» ⟨[.ref l, .ref b, rawInt i, rawInt 3], []⟩)
      (fun A R s => s.heap.get? l = some { cls := .type "list", dict := dd, data := .seq as n, slots := sl } ∧ s.heap.get? b = some { cls := .type "list", dict := dd2, data := .seq bs n2, slots := sl2 } ∧
        (∀ j (h1 : j < as.size) (h2 : j < bs.size), EqP prog w A.in1 s as[j] bs[j] true) ∧ R (.ok (.ret (.bool false))) s) := by
  induction k with
  | zero =>
    intro i hk A R s h
    obtain ⟨hp, g, d, tk, os⟩ := s; obtain ⟨hl, hb, he, h⟩ := h
    wp_walk using wpAny_loadPart' hl, wpAny_loadPart' hb
    have e1 : as[((i : Nat) : Int).toNat]? = none := by simp; omega
    have e2 : bs[((i : Nat) : Int).toNat]? = none := by simp; omega
    rw [e1, e2]
    wp_walk using wpAny_loadPart' hl, wpAny_loadPart' hb
    show R (.ok (.ret (.bool (as.size != bs.size)))) _
    rw [hsz]
    simpa using h
  | succ k ih =>
    intro i hk A R s h
    obtain ⟨hp, g, d, tk, os⟩ := s; obtain ⟨hl, hb, he, h⟩ := h
    wp_walk using wpAny_loadPart' hl, wpAny_loadPart' hb
    have l1 : i < as.size := by omega
    have l2 : i < bs.size := by omega
    have e1 : as[((i : Nat) : Int).toNat]? = some as[i] := by simp [l1]
    have e2 : bs[((i : Nat) : Int).toNat]? = some bs[i] := by simp [l2]
    have hc : ((i : Int) + 1) = ((i + 1 : Nat) : Int) := by push_cast; rfl
    rw [e1, e2]
    refine wpAny_bind (he i l1 l2 _ _ ?_)
    wp_walk
    rw [hc]
    exact ⟨plainId_quiet plain_eq_loop _, codeAny_builtin entry_eq_loop (by
      rw [Around.under_plainId plain_eq_loop _]
      exact ih (i + 1) (by omega) A R _ ⟨hl, hb, he, h⟩)⟩
theorem neListP (l b : Addr) (as bs : Array Value) (n n2 : Nat) (dd dd2 : Option Addr) (sl sl2 : Array (Option Value)) (hsz : as.size = bs.size) :
    MeetsIn prog w (Builtin.«list.__ne__» ⟨[.ref l, .ref b], []⟩)
      (fun A R s => s.heap.get? l = some { cls := .type "list", dict := dd, data := .seq as n, slots := sl } ∧ s.heap.get? b = some { cls := .type "list", dict := dd2, data := .seq bs n2, slots := sl2 } ∧
        (∀ j (h1 : j < as.size) (h2 : j < bs.size), EqP prog w A.in1 s as[j] bs[j] true) ∧ R (.ok (.ret (.bool false))) s) := by
  intro A R s h
  obtain ⟨hp, g, d, tk, os⟩ := s; obtain ⟨hl, hb, he, h⟩ := h
  have f3 := AutoSeq1.sub_list_list
  have hne : ¬ (as.size != bs.size) = true := by simp [hsz]
  wp_walk using wpAny_loadPart' hl, wpAny_loadPart' hb
  exact ⟨plainId_quiet plain_eq_loop _, codeAny_builtin entry_eq_loop (by
    rw [Around.under_plainId plain_eq_loop _]
    exact neLoopP l b as bs n n2 dd dd2 sl sl2 hsz _ 0 rfl A R _ ⟨hl, hb, he, h⟩)⟩
theorem neP_lists {A : Around} {s : Shared} {l b : Addr} {as bs : Array Value} (hl : s.heap.IsList l as) (hb : s.heap.IsList b bs) (hsz : as.size = bs.size) (hu : A.units < cLine)
    (he : ∀ j (h1 : j < as.size) (h2 : j < bs.size), EqP prog w A.in1 s as[j] bs[j] true) (E Q : Value → Shared → Prop) (h : Q (.bool false) s) : wpAny (model prog w) A (richCompare .NotEq (.ref l) (.ref b)) Q E s := by
  obtain ⟨⟨cls, dd, data, sl⟩, ho, hc, n, hd⟩ := id hl
  obtain ⟨⟨cls2, dd2, data2, sl2⟩, ho2, hc2, n2, hd2⟩ := id hb
  simp only at hc hd hc2 hd2
  subst hc hd hc2 hd2
  have ta : s.TypeIs (.ref l) "list" := ⟨_, ho, rfl⟩
  have tb : s.TypeIs (.ref b) "list" := ⟨_, ho2, rfl⟩
  exact wpAny_richCompare_same_room (op := .NotEq) ta tb F.slot_list_ne (call_meetsIn F.slot_list_ne ta F.entry_list_ne (F.args_list_ne_2 _ _) (neListP l b as bs n n2 dd dd2 sl sl2 hsz)
    ⟨ho, ho2, he, show Value.bool false ≠ Value.notImplemented ∧ Q (.bool false) s from ⟨(fun x => nomatch x), h⟩⟩) hu
end
end VL
set_option linter.all false
set_option maxRecDepth 100000
namespace VL
open PySem PySem.Spec PyProof.Rows L2
open PySem.SeqAt PySem.AutoSeq1 PySem.MeetsSeq PySem.MeetsSeq2 PySem.MeetsSeq3 PySem.SeqRoads2
section
variable {prog : Program} {w : World}
theorem eqTupP (l b : Addr) (as bs : Array Value) (n n2 : Nat) (dd dd2 : Option Addr) (sl sl2 : Array (Option Value)) (hsz : as.size = bs.size) :
    MeetsIn prog w (Builtin.«tuple.__eq__» ⟨[.ref l, .ref b], []⟩)
      (fun A R s => s.heap.get? l = some { cls := .type "tuple", dict := dd, data := .seq as n, slots := sl } ∧ s.heap.get? b = some { cls := .type "tuple", dict := dd2, data := .seq bs n2, slots := sl2 } ∧
        (∀ j (h1 : j < as.size) (h2 : j < bs.size), EqP prog w A.in1 s as[j] bs[j] true) ∧ R (.ok (.ret (.bool true))) s) := by
  intro A R s h
  obtain ⟨hp, g, d, tk, os⟩ := s; obtain ⟨hl, hb, he, h⟩ := h
  have f2 := AutoSeq1.sub_tuple_tuple
  have hZ : (as.toList.zip bs.toList).length = as.size := by simp [hsz]
  wp_walk using wpAny_loadPart' hl, wpAny_loadPart' hb, wpAny_forIn_list _ (fun rest b s' => b.1 = none ∧ s' = ⟨hp, g, d, tk, os⟩ ∧ ∃ i, rest = (as.toList.zip bs.toList).drop i) _
  case turn =>
    rintro ⟨y, x⟩ rest b s' ⟨hb', rfl, i, hz⟩
    have hlt : i < (as.toList.zip bs.toList).length := by
      rcases Nat.lt_or_ge i (as.toList.zip bs.toList).length with h' | h'
      · exact h'
      · rw [List.drop_of_length_le h'] at hz; cases hz
    have h1 : i < as.size := by omega
    have h2 : i < bs.size := by omega
    rw [List.drop_eq_getElem_cons hlt] at hz
    injection hz with hyx hrest
    have hy : y = as[i] := by have := congrArg Prod.fst hyx; simpa using this
    have hx : x = bs[i] := by have := congrArg Prod.snd hyx; simpa using this
    subst hy hx
    refine wpAny_bind (he i h1 h2 _ _ ?_)
    wp_walk
    exact ⟨rfl, rfl, i + 1, hrest⟩
  case fin =>
    rintro ⟨b1, b2⟩ s' ⟨hb', rfl, i, hz⟩
    simp only at hb'
    subst hb'
    wp_walk
    simpa [Builtin.Tuple.tupleCompareSizes, hsz] using h
  case h => exact ⟨rfl, rfl, 0, rfl⟩
theorem eqP_tups {A : Around} {s : Shared} {l b : Addr} {as bs : Array Value} (hl : s.heap.IsTuple l as) (hb : s.heap.IsTuple b bs) (hsz : as.size = bs.size) (hu : A.units < cLine)
    (he : ∀ j (h1 : j < as.size) (h2 : j < bs.size), EqP prog w A.in1 s as[j] bs[j] true) (E Q : Value → Shared → Prop) (h : Q (.bool true) s) : wpAny (model prog w) A (richCompare .Eq (.ref l) (.ref b)) Q E s := by
  obtain ⟨⟨cls, dd, data, sl⟩, ho, hc, n, hd⟩ := id hl
  obtain ⟨⟨cls2, dd2, data2, sl2⟩, ho2, hc2, n2, hd2⟩ := id hb
  simp only at hc hd hc2 hd2
  subst hc hd hc2 hd2
  have ta : s.TypeIs (.ref l) "tuple" := ⟨_, ho, rfl⟩
  have tb : s.TypeIs (.ref b) "tuple" := ⟨_, ho2, rfl⟩
  exact wpAny_richCompare_same_room (op := .Eq) ta tb F.slot_tuple_eq (call_meetsIn F.slot_tuple_eq ta F.entry_tuple_eq (F.args_tuple_eq_2 _ _) (eqTupP l b as bs n n2 dd dd2 sl sl2 hsz)
    ⟨ho, ho2, he, show Value.bool true ≠ Value.notImplemented ∧ Q (.bool true) s from ⟨(fun x => nomatch x), h⟩⟩) hu
end
end VL
set_option linter.all false
set_option maxRecDepth 100000
namespace VL
open PySem PySem.Spec PyProof.Rows L2
open PySem.SeqAt
/-- data of rows, tuples, tables of unlike keys, less than n deep -/
def ent : Nat → D → Bool
  | _, .non => true
  | _, .bl _ => true
  | _, .int _ => true
  | _, .str _ => true
  | n + 1, .lst ds => ds.all (ent n)
  | n + 1, .tup ds => ds.all (ent n)
  | n + 1, .dct kvs => (kvs.all fun p => ent n p.2) && decide (kvs.map (·.1)).Nodup
  | _, _ => false
theorem repk_val {K : PySem.W.Frag} {G : Hp} : ∀ {kvs : List (Key × D)} {ks ls : List (Key × V)}, (kvs.map (·.1)).Nodup → Repk K G kvs ks → Repk K G kvs ls → ∀ p ∈ ks, p.1 ∈ kvs.map (·.1) ∧ ∃ u, valV ls p.1 = some u ∧ ∃ q ∈ kvs, Rep K G q.2 p.2 ∧ Rep K G q.2 u
  | [], ks, ls, nd, r1, r2, p, hp => by simp only [Repk] at r1; subst r1; cases hp
  | (k, d) :: kvs, ks, ls, nd, r1, r2, p, hp => by
    simp only [Repk] at r1 r2
    obtain ⟨y, t, rfl, g1, g2⟩ := r1
    obtain ⟨y', t', rfl, g1', g2'⟩ := r2
    simp only [List.map_cons, List.nodup_cons] at nd
    rcases List.mem_cons.mp hp with rfl | hp
    · exact ⟨by simp, y', by simp [valV], (k, d), by simp, g1, g1'⟩
    · obtain ⟨hm, u, hu, q, hq, w1, w2⟩ := repk_val nd.2 g2 g2' p hp
      have hne : k ≠ p.1 := fun e => nd.1 (e ▸ hm)
      exact ⟨by simp only [List.map_cons]; exact List.mem_cons_of_mem _ hm, u, by simpa [valV, hne] using hu, q, List.mem_cons_of_mem _ hq, w1, w2⟩
theorem eqSelf {X : Cx} {pins : List (Addr × Obj)} {σ : L2.St} {H : Hp} {s : Shared} (I : Inv X pins σ H s) : ∀ (n : Nat) {d : D} {v y : V} {u w : Value} {A : Around}, ent n d = true → Rep X.K (VL.lift H) d v → Rep X.K (VL.lift H) d y → RelV v u → RelV y w → A.units + n < cLine → EqP X.prog X.w A s u w true := by
  intro n
  induction n with
  | zero =>
    intro d v y u w A he h h' r r' hu
    have p : pl d = true := by cases d <;> simp [ent] at he <;> simp [pl]
    have hd : dep d = 0 := by cases d <;> simp [ent] at he <;> simp [dep]
    have hq : deq d d = true := by cases d <;> simp [ent] at he <;> simp [deq]
    have := eqAtD I _ (Nat.le_refl _) h h' r r' p p (A := A) (by omega)
    rw [hq] at this
    exact this.eqP
  | succ n ih =>
    intro d v y u w A he h h' r r' hu
    cases d with
    | lst ds =>
      obtain ⟨l, xs, its, rfl, rfl, hG, hl, rv, rs, hsz⟩ := lt_lists I rfl h r
      obtain ⟨l', xs', its', rfl, rfl, hG', hl', rv', rs', hsz'⟩ := lt_lists I rfl h' r'
      by_cases e : l = l'
      · subst e; exact (EqAt.same _).eqP
      · refine eqP_refs e fun E Q q => rcP_lists (e := fun _ => true) hl hl' (by omega) (by omega) (fun j h1 h2 => ?_) E Q (by rw [show ((List.range its.size).all fun _ => true) = true from List.all_eq_true.mpr fun _ _ => rfl]; exact q)
        obtain ⟨d1, x1, e1, rp1, ru1, m1⟩ := items_at rs rv h1 hsz
        obtain ⟨d2, x2, e2, rp2, ru2, m2⟩ := items_at rs' rv' h2 hsz'
        rw [e1] at e2; cases e2
        simp [ent] at he
        exact ih (he d1 m1) rp1 rp2 ru1 ru2 (by show A.units + 1 + n < cLine; omega)
    | tup ds =>
      obtain ⟨l, xs, its, rfl, rfl, hG, hl, rv, rs, hsz⟩ := lt_tups I rfl h r
      obtain ⟨l', xs', its', rfl, rfl, hG', hl', rv', rs', hsz'⟩ := lt_tups I rfl h' r'
      by_cases e : l = l'
      · subst e; exact (EqAt.same _).eqP
      · refine eqP_refs e fun E Q q => eqP_tups hl hl' (by omega) (by omega) (fun j h1 h2 => ?_) E Q q
        obtain ⟨d1, x1, e1, rp1, ru1, m1⟩ := items_at rs rv h1 hsz
        obtain ⟨d2, x2, e2, rp2, ru2, m2⟩ := items_at rs' rv' h2 hsz'
        rw [e1] at e2; cases e2
        simp [ent] at he
        exact ih (he d1 m1) rp1 rp2 ru1 ru2 (by show A.units + 1 + n < cLine; omega)
    | dct kvs =>
      simp only [Rep] at h h'
      obtain ⟨a, ks, rfl, h1, _, r1⟩ := h
      obtain ⟨b, ls, rfl, h2, _, r2⟩ := h'
      cases (show u = Value.ref a from r)
      cases (show w = Value.ref b from r')
      by_cases e : a = b
      · subst e; exact (EqAt.same _).eqP
      · simp only [ent, Bool.and_eq_true, decide_eq_true_eq, List.all_eq_true] at he
        obtain ⟨z1, ya, v1, rel1, d1⟩ := dk_rd I.hok (lift_rd h1)
        obtain ⟨z2, yb, v2, rel2, d2⟩ := dk_rd I.hok (lift_rd h2)
        have l1 := rel1.length
        have l2 := rel2.length
        have k1 := r1.len
        have k2 := r2.len
        refine eqP_refs e fun E Q q => PySem.W.rcP_dicts (knd := mixKind X.prog X.w) (r := true) ya yb d1 d2 (by omega) (fun _ => hits_run (F := fun x y => ∃ d, ent n d = true ∧ Rep X.K (VL.lift H) d x ∧ Rep X.K (VL.lift H) d y) (fun x y v u hf rx ry => ?_) rel2 rel1 (fun p hp => ?_)) E Q ?_
        · obtain ⟨d, hd, f1, f2⟩ := hf
          exact ih hd f1 f2 rx ry (by show A.units + 1 + n < cLine; omega)
        · obtain ⟨_, u, hu, q, hq, w1, w2⟩ := repk_val he.2 r1 r2 p hp
          exact ⟨u, hu, q.2, he.1 q hq, w1, w2⟩
        · have e2 : v1.length = v2.length := by omega
          rw [show (v1.length == v2.length && true) = true from by rw [e2]; simp]
          exact q
    | fzl _ => simp [ent] at he
    | exc _ _ => simp [ent] at he
    | box _ _ => simp [ent] at he
    | _ =>
      have := eqAtD I _ (Nat.le_refl _) h h' r r' rfl rfl (A := A) (by simp [dep]; omega)
      simp only [deq] at this
      simpa using this.eqP
end VL
set_option linter.all false
set_option maxRecDepth 100000
namespace VL
open PySem PySem.Spec PyProof.Rows L2
open PySem.SeqAt
/-- two lists of the same data -/
def rNeL (K : PySem.W.Frag) : R2 := fun x y H Q => ∃ ds, Rep K (VL.lift H) (.lst ds) x ∧ Rep K (VL.lift H) (.lst ds) y ∧ ent 60 (.lst ds) = true ∧ Q (.bl false) H
theorem op_neL {X : Cx} (hu : X.A.units + 200 < cLine) : OpR X (compareOp .NotEq) (rNeL X.K) := by
  intro pins s σ H x y v u Q I rx ry h
  obtain ⟨ds, h1, h2, he, q⟩ := h
  obtain ⟨l, xs, its, rfl, rfl, hG, hl, rv, rs, hsz⟩ := lt_lists I rfl h1 rx
  obtain ⟨l', xs', its', rfl, rfl, hG', hl', rv', rs', hsz'⟩ := lt_lists I rfl h2 ry
  refine neP_lists hl hl' (by omega) (by omega) (fun j j1 j2 => ?_) _ _ ⟨.bl false, H, I, rfl, q⟩
  obtain ⟨d1, x1, e1, rp1, ru1, m1⟩ := items_at rs rv j1 hsz
  obtain ⟨d2, x2, e2, rp2, ru2, m2⟩ := items_at rs' rv' j2 hsz'
  rw [e1] at e2; cases e2
  simp [ent] at he
  exact eqSelf I 59 (he d1 m1) rp1 rp2 ru1 ru2 (by show X.A.units + 1 + 59 < cLine; omega)
end VL
set_option linter.all false
set_option maxRecDepth 100000
namespace VL
open PySem PySem.Spec PyProof.Rows L2
section
variable {X : Cx} {W : WX} {K : PySem.W.Frag} {k : Nat}
open Classical in
/-- != of two lists of the same data -/
noncomputable def vNeL (d e : D) : Option Sv := if (∃ ds, d = .lst ds ∧ e = .lst ds ∧ ent 60 (.lst ds) = true) then some (.sh (.bl false)) else none
theorem neL_same {ds : List D} (h : ent 60 (.lst ds) = true) : vNeL (.lst ds) (.lst ds) = some (.sh (.bl false)) := if_pos ⟨ds, rfl, rfl, h⟩
theorem snd_neL : OpSnd K (rNeL K) vNeL := by
  intro F env σ G H x y vx vy res Qh k rx ry e q
  unfold vNeL at e
  split at e
  · rename_i hc
    obtain ⟨ds, rfl, rfl, h⟩ := hc
    cases e
    exact ⟨ds, rx.lift k.sub rfl, ry.lift k.sub rfl, h, q _ G H k (Gle.refl _) ro_bl⟩
  · cases e
theorem vo_neL {a b : Expr} {pos : Pos} {ta tb : VTB} (hr : Room k X.A) (ha : VB X W a ta) (hb : VB X W b tb) : VO X W (.Compare a [.NotEq] [b] pos) (oOp vNeL ta tb) := vo_cmp (op_neL (room200 hr)) snd_neL ha hb (nomark _)
theorem vt_neL {a b : Expr} {pos : Pos} {ta tb : VTB} (hr : Room k X.A) (ha : VB X W a ta) (hb : VB X W b tb) : VT X W (.Compare a [.NotEq] [b] pos) (tVal (oE (oOp vNeL ta tb))) := vt_cmp (op_neL (room200 hr)) snd_neL ha hb (nomark _)
end
end VL
set_option linter.all false
set_option maxRecDepth 100000
namespace VL
open PySem PySem.Spec PyProof.Rows L2
/-! ## a new thing with owned parts, shared as a whole -/
def unb : D → D
  | .box .lst fs => .lst (fs.map (·.1))
  | .box .tup fs => .tup (fs.map (·.1))
  | d => d
def ubOk : D → Bool
  | .box (.ins _ _) _ => false
  | _ => true
section
variable {K : PySem.W.Frag} {F : FrD} {env : En} {σ : L2.St} {G H G' H' : Hp} {d : D} {v : V} {p a : Addr} {r : Sv}
theorem OwC.share (k : Ok K F env σ G H) (h : OwC K G H d p) (hF : F.H p = none) (hn : ∀ (i : Nat) (s : Sv), env[i]? = some s → ¬ Owns s (σ[i]?) p) : ∃ o, Ok K F env σ (upd G p o) H ∧ G p = none ∧ Rep K (upd G p o) d (.ref p) := by
  cases d with
  | lst ds =>
    obtain ⟨xs, h1, h2, h3, h4⟩ := h
    refine ⟨_, k.share h2 hF h1 hn, h2, ?_⟩
    simp only [Rep]; exact ⟨p, xs, rfl, upd_same, h3, h4.gle (Gle.upd h2)⟩
  | dct kvs =>
    obtain ⟨xs, h1, h2, h3, h4⟩ := h
    refine ⟨_, k.share h2 hF h1 hn, h2, ?_⟩
    simp only [Rep]; exact ⟨p, xs, rfl, upd_same, h3, h4.gle (Gle.upd h2)⟩
  | _ => exact h.elim
theorem Parts.share : ∀ {fs : List (D × Option Addr)} {xs : List V} {G : Hp}, Ok K F env σ G H → Parts K G H fs xs → (bxA fs).Nodup → (∀ a ∈ bxA fs, F.H a = none ∧ ∀ (i : Nat) (s : Sv), env[i]? = some s → ¬ Owns s (σ[i]?) a) →
    ∃ G', Gle G G' ∧ Ok K F env σ G' H ∧ Reps K G' (fs.map (·.1)) xs ∧ ∀ a, a ∉ bxA fs → G' a = G a
  | [], xs, G, k, h, nd, hu => ⟨G, Gle.refl G, k, by simp only [Parts] at h; subst h; exact .nil, fun _ _ => rfl⟩
  | (d, none) :: fs, xs, G, k, h, nd, hu => by
    simp only [Parts] at h
    obtain ⟨x, r, rfl, h1, h2⟩ := h
    rw [bxA_none] at nd hu
    obtain ⟨G', g, k', rs, hx⟩ := Parts.share k h2 nd hu
    exact ⟨G', g, k', .cons (h1.gle g) rs, fun a ha => hx a (by rwa [bxA_none] at ha)⟩
  | (d, some p) :: fs, xs, G, k, h, nd, hu => by
    simp only [Parts] at h
    obtain ⟨r, rfl, h1, h2⟩ := h
    rw [bxA_some] at nd hu
    obtain ⟨np, nd⟩ := List.nodup_cons.mp nd
    obtain ⟨u1, u2⟩ := hu p List.mem_cons_self
    obtain ⟨o, k1, gp, rp⟩ := h1.share k u1 u2
    have h2' : Parts K (upd G p o) H fs r := h2.gle (Gle.upd gp) fun a ha => by
      have hne : a ≠ p := fun e => by subst e; exact np ha
      rw [upd_ne hne]; exact (h2.there ha).2
    obtain ⟨G', g, k', rs, hx⟩ := Parts.share k1 h2' nd fun a ha => hu a (List.mem_cons_of_mem _ ha)
    refine ⟨G', (Gle.upd gp).trans g, k', .cons (rp.gle g) rs, fun a ha => ?_⟩
    rw [bxA_some] at ha
    have hne : a ≠ p := fun e => by subst e; exact ha List.mem_cons_self
    rw [hx a (fun e => ha (List.mem_cons_of_mem _ e)), upd_ne hne]
theorem RO.sharedB (k : Ok K F env σ G H) (h : RO K F env σ G H r v) (hi : ubOk r.d = true) : ∃ G', Gle G G' ∧ Ok K F env σ G' H ∧ Rep K G' (unb r.d) v := by
  cases hb : isIns r.d with
  | false =>
    have e : unb r.d = r.d := by cases hd : r.d <;> first | rfl | (rw [hd] at hb; cases hb)
    rw [e]; exact h.shared k hb
  | true =>
    cases r with
    | un => cases h
    | io d => cases h
    | sh d => cases d <;> first | (simp only [RO, Rep] at h; done) | (cases hb; done)
    | ow d =>
      cases d with
      | box bk fs =>
        obtain ⟨h1, h2⟩ := h
        obtain ⟨p, xs, o, rfl, hp, hk, gp, hl, hps, nd⟩ := h1
        obtain ⟨np, nd⟩ := List.nodup_cons.mp nd
        obtain ⟨G', g, k', rs, hx⟩ := Parts.share k hps nd fun a ha => h2 a (.inr ha)
        have gp' : G' p = none := by rw [hx p np]; exact gp
        obtain ⟨u1, u2⟩ := h2 p (.inl rfl)
        have k2 := k'.share gp' u1 hp u2
        refine ⟨_, g.trans (Gle.upd gp'), k2, ?_⟩
        cases bk with
        | lst => cases hk; simp only [Sv.d, unb, Rep]; exact ⟨p, xs, rfl, upd_same, hl, rs.gle (Gle.upd gp')⟩
        | tup => cases hk; simp only [Sv.d, unb, Rep]; exact ⟨p, xs, rfl, upd_same, hl, rs.gle (Gle.upd gp')⟩
        | ins C ns => cases hi
      | _ => cases hb
end
section
variable {X : Cx} {W : WX}
def oEb (t : VTO) : VTE := fun env Q E => t env (fun r env' => ubOk r.d = true ∧ Q (unb r.d) env') E
theorem VO.eb {e : Expr} {t : VTO} (h : VO X W e t) : VE X W e (oEb t) := by
  obtain ⟨te, p, s⟩ := h.ex
  refine ⟨te, p, fun F env σ G H Q E Qh k xo ht q => s F env σ G H _ E Qh k xo ht fun r env' v G' H' k' g ro ⟨hi, hq⟩ => ?_⟩
  obtain ⟨G2, g2, k2, rp⟩ := ro.sharedB k' hi
  exact q _ env' v G2 H' k2 (g.trans g2) rp hq
end
@[simp ↓] theorem oEb_def {t : VTO} {env : En} {Q : D → En → Prop} {E : XQ} : oEb t env Q E = t env (fun r env' => ubOk r.d = true ∧ Q (unb r.d) env') E := rfl
@[simp] theorem ub_boxl {fs : List (D × Option Addr)} : ubOk (.box .lst fs) = true := rfl
@[simp] theorem ub_boxt {fs : List (D × Option Addr)} : ubOk (.box .tup fs) = true := rfl
@[simp] theorem ub_lst {ds : List D} : ubOk (.lst ds) = true := rfl
@[simp] theorem ub_tup {ds : List D} : ubOk (.tup ds) = true := rfl
@[simp] theorem ub_dct {kvs : List (Key × D)} : ubOk (.dct kvs) = true := rfl
@[simp] theorem ub_int {i : Int} : ubOk (.int i) = true := rfl
@[simp] theorem ub_str {z : Str} : ubOk (.str z) = true := rfl
@[simp] theorem ub_bl {b : Bool} : ubOk (.bl b) = true := rfl
@[simp] theorem ub_non : ubOk .non = true := rfl
@[simp] theorem un_boxl {fs : List (D × Option Addr)} : unb (.box .lst fs) = .lst (fs.map (·.1)) := rfl
@[simp] theorem un_boxt {fs : List (D × Option Addr)} : unb (.box .tup fs) = .tup (fs.map (·.1)) := rfl
@[simp] theorem un_lst {ds : List D} : unb (.lst ds) = .lst ds := rfl
@[simp] theorem un_tup {ds : List D} : unb (.tup ds) = .tup ds := rfl
@[simp] theorem un_dct {kvs : List (Key × D)} : unb (.dct kvs) = .dct kvs := rfl
@[simp] theorem un_int {i : Int} : unb (.int i) = .int i := rfl
@[simp] theorem un_str {z : Str} : unb (.str z) = .str z := rfl
@[simp] theorem un_bl {b : Bool} : unb (.bl b) = .bl b := rfl
@[simp] theorem un_non : unb .non = .non := rfl
end VL
set_option linter.all false
set_option maxRecDepth 100000
set_option maxHeartbeats 4000000
namespace VL
open PySem PySem.Spec PyProof.Rows L2
/-! ## a part of a box is changed, the box stays -/
def setPart : List (D × Option Addr) → Nat → D → List (D × Option Addr)
  | [], _, _ => []
  | f :: fs, 0, d => (d, f.2) :: fs
  | f :: fs, j + 1, d => f :: setPart fs j d
def bxPut (env : En) (i j : Nat) (d : D) : En := match env[i]? with
  | some (.ow (.box bk fs)) => env.set i (.ow (.box bk (setPart fs j d)))
  | _ => env
section
variable {X : Cx} {W : WX} {k : Nat} {K : PySem.W.Frag} {F : FrD} {env : En} {σ : L2.St} {G H G' H' : Hp} {d d' : D} {v : V} {p a : Addr} {o : HO}
theorem setPart_bxA : ∀ {fs : List (D × Option Addr)} {j : Nat}, bxA (setPart fs j d) = bxA fs
  | [], _ => rfl
  | f :: fs, 0 => by obtain ⟨c, q⟩ := f; cases q <;> rfl
  | f :: fs, j + 1 => by
    obtain ⟨c, q⟩ := f
    have ih : bxA (setPart fs j d) = bxA fs := setPart_bxA
    cases q with
    | none => simp only [setPart, bxA_none]; exact ih
    | some q => simp only [setPart, bxA_some]; rw [ih]
theorem Parts.put : ∀ {fs : List (D × Option Addr)} {xs : List V} {j : Nat}, Parts K G H fs xs → fs[j]? = some (d, some p) → (bxA fs).Nodup → OwC K G (upd H p o) d' p → Parts K G (upd H p o) (setPart fs j d') xs
  | [], _, _, _, e, _, _ => by simp at e
  | (c, none) :: fs, _, 0, h, e, _, _ => by simp at e
  | (c, some q) :: fs, _, 0, h, e, nd, hc => by
    simp only [Parts] at h
    obtain ⟨r, rfl, h1, h2⟩ := h
    simp at e; obtain ⟨rfl, rfl⟩ := e
    rw [bxA_some] at nd
    obtain ⟨np, nd⟩ := List.nodup_cons.mp nd
    simp only [setPart, Parts]
    refine ⟨r, rfl, hc, h2.heap fun a ha => ?_⟩
    have hne : a ≠ q := fun e => by subst e; exact np ha
    rw [upd_ne hne]
  | (c, none) :: fs, _, j + 1, h, e, nd, hc => by
    simp only [Parts] at h
    obtain ⟨x, r, rfl, h1, h2⟩ := h
    rw [bxA_none] at nd
    simp only [setPart, Parts]
    exact ⟨x, r, rfl, h1, Parts.put h2 (by simpa using e) nd hc⟩
  | (c, some q) :: fs, _, j + 1, h, e, nd, hc => by
    simp only [Parts] at h
    obtain ⟨r, rfl, h1, h2⟩ := h
    rw [bxA_some] at nd
    obtain ⟨np, nd⟩ := List.nodup_cons.mp nd
    have hm := (h2.at (show fs[j]? = some (d, some p) by simpa using e)).2.2
    have hne : q ≠ p := fun e => by subst e; exact np hm
    simp only [setPart, Parts]
    exact ⟨r, rfl, h1.heap (by rw [upd_ne hne]), Parts.put h2 (by simpa using e) nd hc⟩
theorem Ok.bxAt2 {i j : Nat} (k : Ok K F env σ G H) (h : VL.bxAt env i j = some (d, p)) : ∃ a xs, σ[i]? = some (some (.ref a)) ∧ (H a = some (.lst xs) ∨ H a = some (.tup xs)) ∧ xs[j]? = some (.ref p) ∧ OwC K G H d p ∧
    ∀ o d', OwC K G (upd H p o) d' p → Ok K F (bxPut env i j d') σ G (upd H p o) := by
  unfold VL.bxAt at h
  have main : ∀ bk fs, env[i]? = some (.ow (.box bk fs)) → (bk = .lst ∨ bk = .tup) → ((fs[j]?).bind fun f => f.2.map fun p => (f.1, p)) = some (d, p) → ∃ a xs, σ[i]? = some (some (.ref a)) ∧ (H a = some (.lst xs) ∨ H a = some (.tup xs)) ∧ xs[j]? = some (.ref p) ∧ OwC K G H d p ∧
      ∀ o d', OwC K G (upd H p o) d' p → Ok K F (bxPut env i j d') σ G (upd H p o) := fun bk fs e hb h => by
    obtain ⟨f, hf, h⟩ := Option.bind_eq_some_iff.mp h
    obtain ⟨q, hq, h⟩ := Option.map_eq_some_iff.mp h
    cases h
    have hf : fs[j]? = some (f.1, some p) := by rw [hf, ← hq]
    obtain ⟨v, e1, h1, h2⟩ := k.slot i _ e
    obtain ⟨a, xs, o, rfl, h3, h4, h5, h6, h7, h8⟩ := h1
    obtain ⟨a1, a2, a3⟩ := h7.at hf
    obtain ⟨np, nd⟩ := List.nodup_cons.mp h8
    have hne : a ≠ p := fun e => by subst e; exact np a3
    refine ⟨a, xs, e1, ?_, a1, a2, fun o' d' hc => ?_⟩
    · rcases hb with rfl | rfl
      · simp only [BkO] at h4; subst h4; exact .inl h3
      · simp only [BkO] at h4; subst h4; exact .inr h3
    · have eb : bxPut env i j d' = env.set i (.ow (.box bk (setPart fs j d'))) := by unfold bxPut; rw [e]
      rw [eb]
      refine k.change (t := .ow (.box bk (setPart fs j d'))) e (by rw [e1]; exact .inr a3) ⟨_, e1, ⟨a, xs, o, rfl, by rw [upd_ne hne]; exact h3, h4, h5, h6, h7.put hf nd hc, by rw [setPart_bxA]; exact h8⟩, fun b hb => h2 b ?_⟩ fun b hb => ?_
      · rcases hb with hb | hb
        · exact .inl hb
        · rw [setPart_bxA] at hb; exact .inr hb
      · rw [e1] at hb ⊢
        rcases hb with hb | hb
        · exact .inl hb
        · rw [setPart_bxA] at hb; exact .inr hb
  split at h
  · rename_i fs e; exact main _ _ e (.inl rfl) h
  · rename_i fs e; exact main _ _ e (.inr rfl) h
  · cases h
def sStoBk (i j : Nat) (tv : VTE) (z : Str) : VTS := fun D env => tv env (fun x env1 => ∃ kvs p, bxAt env1 i j = some (.dct kvs, p) ∧ kvs.length + 1 ≤ 16777216 ∧ D.nx (bxPut env1 i j (.dct (putD kvs (.inr z) x)))) D.ex
theorem vs_stoBk {i j : Nat} {y z : Str} {jc jz : Nat} {q pos tpos spos cpos zpos : Pos} {e : Expr} {tv : VTE} (cx : VC X W k) (pv : PE X (.Name y q) (tVar i)) (hv : VE X W e tv)
    (hpl : PlainIx (.Constant (.int j) jc cpos) := by intro _ _; rfl)
    (ha : ∀ v, assign (.Subscript (.Subscript (.Name y q) (.Constant (.int j) jc cpos) spos) (.Constant (.str z) jz zpos) tpos) X.env v = (do
      let ov ← holding [v] (eval (.Subscript (.Name y q) (.Constant (.int j) jc cpos) spos) X.env)
      let iv ← holding [v, ov] (eval (.Constant (.str z) jz zpos) X.env)
      standAt tpos
      holding [v, ov, iv] (setItem ov iv v)
      release [v, ov, iv] []) := by intro _; rfl)
    (hs : swapsWithSole [.Subscript (.Subscript (.Name y q) (.Constant (.int j) jc cpos) spos) (.Constant (.str z) jz zpos) tpos] e pos.line X.env = pure false := by rfl) (hw : swappedStores [.Subscript (.Subscript (.Name y q) (.Constant (.int j) jc cpos) spos) (.Constant (.str z) jz zpos) tpos] e X.env = pure none := by rfl)
    (h1 : (assignEach [.Subscript (.Subscript (.Name y q) (.Constant (.int j) jc cpos) spos) (.Constant (.str z) jz zpos) tpos] X.env).map (·.2) = [assign (.Subscript (.Subscript (.Name y q) (.Constant (.int j) jc cpos) spos) (.Constant (.str z) jz zpos) tpos) X.env] := by rfl) :
    VS X W (.Assign [.Subscript (.Subscript (.Name y q) (.Constant (.int j) jc cpos) spos) (.Constant (.str z) jz zpos) tpos] e pos) (sStoBk i j tv z) := by
  obtain ⟨pa, p1, s1⟩ := hv.ex
  refine ⟨_, ps_asg p1 (pg_sub (pe_ix (ix_any (hu_of cx.hr)) pv pe_int hpl) pe_str (set_any (by have := cx.hr.un; omega)) ha) hs hw h1, fun F env σ G H D DD k c h => ?_⟩
  refine s1 F env σ G H _ D.ex _ k c.ex h fun x env1 v G1 H1 k1 g1 r1 ⟨kvs, p, e2, hl, hq⟩ => ?_
  obtain ⟨a, xs, e3, h3, h4, h5, h6⟩ := k1.bxAt2 e2
  obtain ⟨ys, h7, h8, h9, h10⟩ := h5
  refine ⟨_, e3, ix_box h3 h4 ?_⟩
  have hl2 := h10.len
  have hp := length_putK ys (.inr z) v
  refine .inr ⟨p, _, rfl, .k (k := .inr z) h7 (by rw [hl2, sizeLine_eq]; omega), c.nx _ _ G1 _ (h6 _ _ ?_) hq⟩
  exact ⟨_, upd_same, h8, by rw [sizeLine_eq]; omega, h10.put (.inr z) r1⟩
def oAppBk (i j : Nat) (ta : VTA) : VTE := fun env Q E => ∃ ds0 p, bxAt env i j = some (.lst ds0, p) ∧ ta env (fun bs env1 => ∃ ds d, bxAt env1 i j = some (.lst ds, p) ∧ vals bs = some [d] ∧ ds.length + 1 ≤ 16777216 ∧ Q .non (bxPut env1 i j (.lst (ds ++ [d])))) E
theorem ve_appBk {i j : Nat} {y : Str} {jc : Nat} {q spos cpos apos pos : Pos} {e : Expr} {ta : VTA} (cx : VC X W k) (pv : PE X (.Name y q) (tVar i)) (ha : VA X W [e] ta) (hpl : PlainIx (.Constant (.int j) jc cpos) := by intro _ _; rfl)
    (hbase : attributeBase (.Subscript (.Name y q) (.Constant (.int j) jc cpos) spos) "append" X.env (eval (.Subscript (.Name y q) (.Constant (.int j) jc cpos) spos) X.env) = eval (.Subscript (.Name y q) (.Constant (.int j) jc cpos) spos) X.env := by rfl)
    (hfew : ((backTo pos (starEach [e] X.env)).all (fun x => !x.1) && (backToKw pos (keywordEach [] X.env)).all (fun x => x.1.isSome)
      && decide (([e] : List Expr).length + ([] : List Keyword).length + (if ([] : List Keyword).isEmpty then 0 else 1) < 30)) = true := by rfl)
    (hline : (apos.endLine == pos.line) = true := by rfl) (hs : starEach [e] X.env = (false, eval e X.env) :: starEach [] X.env := by rfl) :
    VE X W (.Call (.Attribute (.Subscript (.Name y q) (.Constant (.int j) jc cpos) spos) "append" apos) [e] [] pos) (oAppBk i j ta) := by
  obtain ⟨tp, p1, s1⟩ := ha.ex
  refine ⟨_, pe_bm PySem.F.plainAttrs_list PySem.F.slot_list_append PySem.F.type_list_append mt_append (pe_ix (ix_any (hu_of cx.hr)) pv pe_int hpl) p1 hbase hfew hline hs, fun F env σ G H Q E Qh k xo ⟨ds0, p, h0, ht⟩ q => ?_⟩
  obtain ⟨a, xs, e3, h3, h4, h5, _⟩ := k.bxAt h0
  obtain ⟨zs, h7, _⟩ := h5
  refine ⟨_, e3, ix_box h3 h4 ⟨.inl ⟨rfl, zs, .inl (.inl h7)⟩, ?_⟩⟩
  refine s1 F env σ G H _ E _ k xo ht fun bs env1 vs G1 H1 k1 g1 r1 ⟨ds, d, e1, ev, hl, hq⟩ => ?_
  obtain ⟨a', xs', _, _, _, h5', h6'⟩ := k1.bxAt2 e1
  obtain ⟨ys, h8, h9, _, h10⟩ := h5'
  have rs := vals_reps r1 ev
  simp only [Reps] at rs
  obtain ⟨w, r, rfl, rw1, rfl⟩ := rs
  have hl2 := h10.len
  refine ⟨p, ys, w, rfl, rfl, h8, by rw [hl2, sizeLine_eq]; omega, q _ _ _ G1 _ (h6' _ _ ?_) g1 rep_non hq⟩
  exact ⟨_, upd_same, h9, by simp only [List.length_append, List.length_cons, List.length_nil]; rw [hl2, sizeLine_eq]; omega, h10.app (.one rw1)⟩
end
@[simp] theorem setPart_0 {f : D × Option Addr} {fs : List (D × Option Addr)} {d : D} : setPart (f :: fs) 0 d = (d, f.2) :: fs := rfl
@[simp] theorem setPart_1 {f : D × Option Addr} {fs : List (D × Option Addr)} {j : Nat} {d : D} : setPart (f :: fs) (j + 1) d = f :: setPart fs j d := rfl
@[simp] theorem setPart_1' {f g : D × Option Addr} {fs : List (D × Option Addr)} {d : D} : setPart (f :: g :: fs) 1 d = f :: (d, g.2) :: fs := rfl
@[simp] theorem bxPut_def {env : En} {i j : Nat} {d : D} : bxPut env i j d = (match env[i]? with
  | some (.ow (.box bk fs)) => env.set i (.ow (.box bk (setPart fs j d)))
  | _ => env) := rfl
end VL
set_option linter.all false
set_option maxRecDepth 100000
set_option maxHeartbeats 400000
namespace VL
open PySem PySem.Spec PyProof.Rows L2
open PySem.SeqAt
/-! ## `in` among rows and tuples of plain data -/
/-- plain data, at most n rows and tuples within one another -/
def pn : Nat → D → Bool
  | _, .non => true
  | _, .bl _ => true
  | _, .int _ => true
  | _, .str _ => true
  | n + 1, .lst ds => ds.all (pn n)
  | n + 1, .tup ds => ds.all (pn n)
  | _, _ => false
theorem pn_lst {n : Nat} {ds : List D} : pn (n + 1) (.lst ds) = true ↔ ∀ x ∈ ds, pn n x = true := by simp [pn]
theorem pn_tup {n : Nat} {ds : List D} : pn (n + 1) (.tup ds) = true ↔ ∀ x ∈ ds, pn n x = true := by simp [pn]
theorem pls_of : ∀ {ds : List D}, (∀ x ∈ ds, pl x = true) → pls ds = true
  | [], _ => by simp [pls]
  | d :: ds, h => by simp only [pls, Bool.and_eq_true]; exact ⟨h d (by simp), pls_of fun x hx => h x (by simp [hx])⟩
theorem deps_of {n : Nat} : ∀ {ds : List D}, (∀ x ∈ ds, dep x ≤ n) → deps ds ≤ n
  | [], _ => by simp [deps]
  | d :: ds, h => by
    have h1 := h d (by simp)
    have h2 := deps_of (n := n) (ds := ds) fun x hx => h x (by simp [hx])
    simp only [deps]; omega
theorem pn_pl : ∀ {n : Nat} {d : D}, pn n d = true → pl d = true ∧ dep d ≤ n := by
  intro n
  induction n with
  | zero => intro d h; cases d <;> simp [pn] at h <;> simp [pl, dep]
  | succ n ih =>
    intro d h
    cases d with
    | lst ds =>
      rw [pn_lst] at h
      refine ⟨by simp only [pl]; exact pls_of fun x hx => (ih (h x hx)).1, ?_⟩
      have := deps_of (n := n) (ds := ds) fun x hx => (ih (h x hx)).2
      simp only [dep]; omega
    | tup ds =>
      rw [pn_tup] at h
      refine ⟨by simp only [pl]; exact pls_of fun x hx => (ih (h x hx)).1, ?_⟩
      have := deps_of (n := n) (ds := ds) fun x hx => (ih (h x hx)).2
      simp only [dep]; omega
    | _ => simp [pn] at h <;> simp [pl, dep]
theorem reps_det {K : PySem.W.Frag} {G : Hp} : ∀ {ds es : List D} {xs : List V}, (∀ d ∈ ds, ∀ e v, e ∈ es → Rep K G d v → Rep K G e v → d = e) → Reps K G ds xs → Reps K G es xs → ds = es
  | [], [], _, _, _, _ => rfl
  | [], e :: es, xs, _, h, h' => by
    simp only [Reps] at h h'
    obtain ⟨x, r, rfl, _⟩ := h'
    cases h
  | d :: ds, [], xs, _, h, h' => by
    simp only [Reps] at h h'
    obtain ⟨x, r, rfl, _⟩ := h
    cases h'
  | d :: ds, e :: es, xs, q, h, h' => by
    simp only [Reps] at h h'
    obtain ⟨x, r, rfl, h1, h2⟩ := h
    obtain ⟨x', r', e1, h1', h2'⟩ := h'
    cases e1
    rw [q d (by simp) e x (by simp) h1 h1', reps_det (fun a ha b v hb => q a (by simp [ha]) b v (by simp [hb])) h2 h2']
theorem rep_det {K : PySem.W.Frag} {G : Hp} : ∀ {n : Nat} {d e : D} {v : V}, pn n d = true → pn n e = true → Rep K G d v → Rep K G e v → d = e := by
  intro n
  induction n with
  | zero =>
    intro d e v hd he h h'
    cases d <;> simp [pn] at hd <;> cases e <;> simp [pn] at he <;> simp only [Rep] at h h' <;> simp_all
  | succ n ih =>
    intro d e v hd he h h'
    have lists : ∀ {ds es : List D} {xs : List V}, (∀ x ∈ ds, pn n x = true) → (∀ x ∈ es, pn n x = true) → Reps K G ds xs → Reps K G es xs → ds = es := fun h1 h2 r r' =>
      reps_det (fun a ha b v hb q q' => ih (h1 a ha) (h2 b hb) q q') r r'
    cases d with
    | lst ds =>
      rw [pn_lst] at hd
      cases e with
      | lst es =>
        rw [pn_lst] at he
        simp only [Rep] at h h'
        obtain ⟨a, xs, rfl, g, _, r⟩ := h
        obtain ⟨a', xs', e1, g', _, r'⟩ := h'
        cases e1; rw [g] at g'; cases g'
        rw [lists hd he r r']
      | tup es =>
        simp only [Rep] at h h'
        obtain ⟨a, xs, rfl, g, _, r⟩ := h
        obtain ⟨a', xs', e1, g', _, r'⟩ := h'
        cases e1; rw [g] at g'; cases g'
      | _ => simp [pn] at he <;> (simp only [Rep] at h h'; obtain ⟨a, xs, rfl, _⟩ := h; simp at h')
    | tup ds =>
      rw [pn_tup] at hd
      cases e with
      | tup es =>
        rw [pn_tup] at he
        simp only [Rep] at h h'
        obtain ⟨a, xs, rfl, g, _, r⟩ := h
        obtain ⟨a', xs', e1, g', _, r'⟩ := h'
        cases e1; rw [g] at g'; cases g'
        rw [lists hd he r r']
      | lst es =>
        simp only [Rep] at h h'
        obtain ⟨a, xs, rfl, g, _, r⟩ := h
        obtain ⟨a', xs', e1, g', _, r'⟩ := h'
        cases e1; rw [g] at g'; cases g'
      | _ => simp [pn] at he <;> (simp only [Rep] at h h'; obtain ⟨a, xs, rfl, _⟩ := h; simp at h')
    | _ =>
      simp [pn] at hd <;> cases e <;> simp [pn] at he <;> simp only [Rep] at h h' <;> first
        | (simp_all; done)
        | (obtain ⟨a, xs, e1, _⟩ := h'; simp_all; done)
        | (obtain ⟨h, _⟩ := h; obtain ⟨a, xs, e1, _⟩ := h'; simp_all; done)
section
variable {X : Cx} {W : WX} {K : PySem.W.Frag} {k : Nat}
def isInP (x y : D) : Option Bool := match y with
  | .lst ds => if pn 50 x && ds.all (pn 50) then some (ds.any fun d => deq d x) else none
  | .tup ds => if pn 50 x && ds.all (pn 50) then some (ds.any fun d => deq d x) else none
  | _ => none
def rInP (K : PySem.W.Frag) (neg : Bool) : R2 := fun x y H Q => ∃ d ds, Rep K (VL.lift H) d x ∧ (Rep K (VL.lift H) (.lst ds) y ∨ Rep K (VL.lift H) (.tup ds) y) ∧ pn 50 d = true ∧ (∀ e ∈ ds, pn 50 e = true) ∧ Q (.bl (if neg then !(ds.any fun e => deq e d) else ds.any fun e => deq e d)) H
open Classical in
noncomputable def eqOf (K : PySem.W.Frag) (G : Hp) (d : D) (u : Value) : Bool := decide (∃ e v, RelV v u ∧ Rep K G e v ∧ pn 50 e = true ∧ deq e d = true)
open Classical in
theorem eqOf_at {G : Hp} {d e : D} {v : V} {u : Value} (r : RelV v u) (h : Rep K G e v) (he : pn 50 e = true) : eqOf K G d u = deq e d := by
  unfold eqOf
  rw [Bool.eq_iff_iff, decide_eq_true_eq]
  constructor
  · rintro ⟨e', v', r', h', he', q⟩
    cases r.inj r'
    rw [rep_det he he' h h']; exact q
  · intro q; exact ⟨e, v, r, h, he, q⟩
theorem any_at {α β : Type} {f : α → Bool} {g : β → Bool} {as : Array α} {bs : List β} (hl : as.size = bs.length) (h : ∀ j (h1 : j < as.size) (h2 : j < bs.length), f as[j] = g bs[j]) : as.any f = bs.any g := by
  rw [Bool.eq_iff_iff, Array.any_eq_true, List.any_eq_true]
  constructor
  · rintro ⟨j, hj, q⟩
    exact ⟨bs[j], List.getElem_mem _, by rw [← h j hj (by omega)]; exact q⟩
  · rintro ⟨x, hx, q⟩
    obtain ⟨j, hj, rfl⟩ := List.mem_iff_getElem.mp hx
    exact ⟨j, by omega, by rw [h j (by omega) hj]; exact q⟩
theorem items_eq {pins : List (Addr × Obj)} {σ : L2.St} {H : Hp} {s : Shared} (I : Inv X pins σ H s) {d : D} {ds : List D} {x : V} {v : Value} {xs : List V} {its : Array Value} {A : Around} (hx : Rep X.K (VL.lift H) d x) (rx : RelV x v) (hd : pn 50 d = true) (he : ∀ e ∈ ds, pn 50 e = true)
    (rs : Reps X.K (VL.lift H) ds xs) (rv : Vals xs its.toList) (hsz : its.size = ds.length) (hu : A.units + 100 < cLine) : (∀ y, y ∈ its → EqAt A.in1 s y v (eqOf X.K (VL.lift H) d y)) ∧ its.any (eqOf X.K (VL.lift H) d) = ds.any fun e => deq e d := by
  constructor
  · intro y hy
    obtain ⟨j, hj, rfl⟩ := Array.mem_iff_getElem.mp hy
    obtain ⟨e, x1, e1, rp1, ru1, m1⟩ := items_at rs rv hj hsz
    rw [eqOf_at ru1 rp1 (he e m1)]
    have h1 := pn_pl (he e m1)
    have h2 := pn_pl hd
    exact eqAtD I _ (Nat.le_refl _) rp1 hx ru1 rx h1.1 h2.1 (by show A.units + 1 + dep e < cLine; omega)
  · refine any_at hsz fun j h1 h2 => ?_
    obtain ⟨e, x1, e1, rp1, ru1, m1⟩ := items_at rs rv h1 hsz
    rw [eqOf_at ru1 rp1 (he e m1)]
    have : ds[j] = e := (List.getElem?_eq_some_iff.mp e1).2
    rw [this]
theorem op_inP (hu : X.A.units + 200 < cLine) : OpR X (compareOp .In) (rInP X.K false) := by
  intro pins s σ H x y v u Q I rx ry h
  obtain ⟨d, ds, hx, hy, hd, he, q⟩ := h
  rcases hy with hy | hy
  · obtain ⟨l, xs, its, rfl, rfl, hG, hl, rv, rs, hsz⟩ := lt_lists I rfl hy ry
    obtain ⟨a, b⟩ := items_eq (A := X.A) I hx rx hd he rs rv hsz (by omega)
    refine SeqAt.in_listAt _ hl a ⟨.bl _, H, I, rfl, ?_⟩
    rw [b]; exact q
  · obtain ⟨l, xs, its, rfl, rfl, hG, hl, rv, rs, hsz⟩ := lt_tups I rfl hy ry
    obtain ⟨a, b⟩ := items_eq (A := X.A) I hx rx hd he rs rv hsz (by omega)
    refine SeqAt.in_tupleAt _ hl a ⟨.bl _, H, I, rfl, ?_⟩
    rw [b]; exact q
theorem op_notInP (hu : X.A.units + 200 < cLine) : OpR X (compareOp .NotIn) (rInP X.K true) := by
  intro pins s σ H x y v u Q I rx ry h
  obtain ⟨d, ds, hx, hy, hd, he, q⟩ := h
  rcases hy with hy | hy
  · obtain ⟨l, xs, its, rfl, rfl, hG, hl, rv, rs, hsz⟩ := lt_lists I rfl hy ry
    obtain ⟨a, b⟩ := items_eq (A := X.A) I hx rx hd he rs rv hsz (by omega)
    refine SeqAt.notIn_listAt _ hl a ⟨.bl _, H, I, rfl, ?_⟩
    rw [b]; exact q
  · obtain ⟨l, xs, its, rfl, rfl, hG, hl, rv, rs, hsz⟩ := lt_tups I rfl hy ry
    obtain ⟨a, b⟩ := items_eq (A := X.A) I hx rx hd he rs rv hsz (by omega)
    refine SeqAt.notIn_tupleAt _ hl a ⟨.bl _, H, I, rfl, ?_⟩
    rw [b]; exact q
theorem snd_inP {neg : Bool} : OpSnd K (rInP K neg) (fun x y => (isInP x y).map fun b => .sh (.bl (if neg then !b else b))) := by
  intro F env σ G H x y vx vy res Qh k rx ry e q
  obtain ⟨b, eb, rfl⟩ := Option.map_eq_some_iff.mp e
  unfold isInP at eb
  split at eb
  · rename_i ds
    split at eb
    · rename_i hc
      simp only [Bool.and_eq_true, List.all_eq_true] at hc
      cases eb
      refine ⟨x, ds, rx.lift k.sub ?_, .inl (ry.lift k.sub rfl), hc.1, hc.2, q _ G H k (Gle.refl _) ro_bl⟩
      have := hc.1
      cases x <;> first | rfl | (simp [pn] at this; done)
    · cases eb
  · rename_i ds
    split at eb
    · rename_i hc
      simp only [Bool.and_eq_true, List.all_eq_true] at hc
      cases eb
      refine ⟨x, ds, rx.lift k.sub ?_, .inr (ry.lift k.sub rfl), hc.1, hc.2, q _ G H k (Gle.refl _) ro_bl⟩
      have := hc.1
      cases x <;> first | rfl | (simp [pn] at this; done)
    · cases eb
  · cases eb
def vInP (x y : D) : Option Sv := (isInP x y).map fun b => .sh (.bl b)
def vNotInP (x y : D) : Option Sv := (isInP x y).map fun b => .sh (.bl (!b))
theorem vo_inP {a b : Expr} {pos : Pos} {ta tb : VTB} (hr : Room k X.A) (ha : VB X W a ta) (hb : VB X W b tb) (hm : behindInMarks .In b = false := by rfl) : VO X W (.Compare a [.In] [b] pos) (oOp vInP ta tb) := vo_cmp (op_inP (room200 hr)) (snd_inP (neg := false)) ha hb hm
theorem vt_inP {a b : Expr} {pos : Pos} {ta tb : VTB} (hr : Room k X.A) (ha : VB X W a ta) (hb : VB X W b tb) (hm : behindInMarks .In b = false := by rfl) : VT X W (.Compare a [.In] [b] pos) (tVal (oE (oOp vInP ta tb))) := vt_cmp (op_inP (room200 hr)) (snd_inP (neg := false)) ha hb hm
theorem vo_notInP {a b : Expr} {pos : Pos} {ta tb : VTB} (hr : Room k X.A) (ha : VB X W a ta) (hb : VB X W b tb) (hm : behindInMarks .NotIn b = false := by rfl) : VO X W (.Compare a [.NotIn] [b] pos) (oOp vNotInP ta tb) := vo_cmp (op_notInP (room200 hr)) (snd_inP (neg := true)) ha hb hm
theorem vt_notInP {a b : Expr} {pos : Pos} {ta tb : VTB} (hr : Room k X.A) (ha : VB X W a ta) (hb : VB X W b tb) (hm : behindInMarks .NotIn b = false := by rfl) : VT X W (.Compare a [.NotIn] [b] pos) (tVal (oE (oOp vNotInP ta tb))) := vt_cmp (op_notInP (room200 hr)) (snd_inP (neg := true)) ha hb hm
end
end VL
set_option linter.all false
set_option maxRecDepth 100000
set_option maxHeartbeats 3200000
namespace VL
open PySem PySem.Spec PyProof.Rows L2
/-! ## sets of texts, as the machine holds them -/
def txOf (e : Int × Value) : Str := match e.2 with
  | .str z _ => z
  | _ => Str.empty
def IsTx (P : Program) (w : World) (e : Int × Value) : Prop := ∃ z t, e = ((PySem.strKind P w).hash z, Value.str z t)
/-- the set at a holds just zs; its table can be walked -/
structure TxAt (P : Program) (w : World) (h : Heap) (a : Addr) (zs : List Str) (o : Obj) (es : Array (Int × Value)) (ep : Nat) (t : SetTable) : Prop where
  at_ : h.get? a = some o
  ex : o.ExactSet
  dt : o.data = .set es ep t
  tx : ∀ e ∈ es.toList, IsTx P w e
  pm : (es.toList.map txOf).Perm zs
  nd : zs.Nodup
  few : es.size < scanBound
  fit : t.fits es.size = true
  ris : Ris t.place.toList
  led : w.params.followText "set-order" = true ∨ t.led = true
def TxSet (P : Program) (w : World) (h : Heap) (a : Addr) (zs : List Str) : Prop := ∃ o es ep t, TxAt P w h a zs o es ep t
/-- z put to what is there, once -/
def put1 (zs : List Str) (z : Str) : List Str := if z ∈ zs then zs else zs ++ [z]
theorem put1_nd {zs : List Str} {z : Str} (h : zs.Nodup) : (put1 zs z).Nodup := by
  unfold put1
  split
  · exact h
  · rename_i hz
    exact List.nodup_append.mpr ⟨h, by simp, fun a ha b hb e => by simp at hb; subst hb; subst e; exact hz ha⟩
theorem put1_len {zs : List Str} {z : Str} : (put1 zs z).length ≤ zs.length + 1 := by
  unfold put1; split <;> simp
theorem mem_put1 {zs : List Str} {z y : Str} : y ∈ put1 zs z ↔ y ∈ zs ∨ y = z := by
  unfold put1
  split
  · rename_i h
    exact ⟨.inl, fun q => q.elim id fun e => e ▸ h⟩
  · simp
section
variable {P : Program} {w : World} {A : Around} {E : Value → Shared → Prop} {s : Shared} {a : Addr} {zs : List Str} {h h' : Heap}
theorem TxAt.len {o : Obj} {es : Array (Int × Value)} {ep : Nat} {t : SetTable} (R : TxAt P w h a zs o es ep t) : es.size = zs.length := by
  have := R.pm.length_eq
  rwa [List.length_map, Array.length_toList] at this
theorem TxSet.at (R : TxSet P w h a zs) (k : ∀ o, h.get? a = some o → h'.get? a = some o) : TxSet P w h' a zs := by
  obtain ⟨o, es, ep, t, R⟩ := R
  exact ⟨o, es, ep, t, { R with at_ := k o R.at_ }⟩
theorem tx_elems {l : List (Int × Value)} (g : ∀ e ∈ l, IsTx P w e) : ElemsOf (PySem.strKind P w) l := by
  intro e he
  obtain ⟨z, t, rfl⟩ := g e he
  exact ⟨⟨z, PySem.strKind_is P w z t, rfl⟩, rfl⟩
theorem tx_is {e : Int × Value} (g : IsTx P w e) (z : Str) : (PySem.strKind P w).is z e.2 = true ↔ txOf e = z := by
  obtain ⟨y, t, rfl⟩ := g
  show (y == z) = true ↔ y = z
  exact beq_iff_eq
/-- storing what was laid out, and laying it out anew where the table is full -/
theorem tx_store {g : Bool → Sem Unit} (hg : ∀ (b : Bool) (s₁ : Shared) (Q' : Unit → Shared → Prop), Q' () s₁ → wpAny (model P w) A (g b) Q' E s₁) {o : Obj} {es es1 : Array (Int × Value)} {ep : Nat} {t t2 : SetTable} {ys : List Str}
    (ho : s.heap.get? a = some o) (hx : o.ExactSet) (hd : o.data = .set es ep t) (g1 : ∀ e ∈ es1.toList, IsTx P w e) (p1 : (es1.toList.map txOf).Perm ys) (nd : ys.Nodup) (b1 : es1.size < scanBound) (f2 : t2.fits es1.size = true) (r2 : Ris t2.place.toList)
    (l2 : w.params.followText "set-order" = true ∨ t2.led = true) {was : Bool} {R : Option Bool → Shared → Prop} (hR : ∀ h', Heap.SameBut a s.heap h' → TxSet P w h' a ys → R (some true) { s with heap := h' }) :
    wpAny (model P w) A (storeSet a es1 t2 >>= fun _ => if (!was && t2.tooFull) = true then (g (relayAll t2 es1 (SetTable.grown es1.size)).2.2 >>= fun _ => storeSet a (relayAll t2 es1 (SetTable.grown es1.size)).1 (relayAll t2 es1 (SetTable.grown es1.size)).2.1 >>= fun _ => pure (some true)) else pure (some true)) R E s := by
  refine wpAny_bind (wpAny_storeSet_of ho hd ?_ (fits_of_scanBound b1))
  have o1 := store_at (es' := es1) (t' := t2) ho hd
  have sb := Heap.SameBut.update s.heap a (Obj.putSet es1 t2)
  by_cases hf : (!was && t2.tooFull) = true
  · rw [if_pos hf]
    obtain ⟨Z, hZ⟩ : ∃ Z, Z = relayAll t2 es1 (SetTable.grown es1.size) := ⟨_, rfl⟩
    have q1 : Z.1.toList.Perm es1.toList := by rw [hZ]; exact relayAll_perm t2 es1 _
    have q2 : Z.2.1.fits Z.1.size = true := by rw [hZ]; exact relayAll_fits t2 es1 _
    have q3 : Ris Z.2.1.place.toList := by rw [hZ]; exact relayAll_ris t2 es1 _
    have q4 : Z.2.1.led = t2.led := by rw [hZ]; exact relayAll_led t2 es1 _
    rw [← hZ]
    have hz : Z.1.size < scanBound := by
      have := q1.length_eq
      simp only [Array.length_toList] at this
      omega
    refine wpAny_bind (hg _ _ _ (wpAny_bind (wpAny_storeSet_of o1 rfl ?_ (fits_of_scanBound hz))))
    have o2 := store_at (es' := Z.1) (t' := Z.2.1) o1 rfl
    refine wpAny_pure (hR _ (sb.trans (Heap.SameBut.update _ a _)) ⟨_, Z.1, _, Z.2.1,
      { at_ := o2, ex := hx, dt := rfl, tx := fun e he => g1 e (q1.mem_iff.mp he), pm := (q1.map txOf).trans p1, nd := nd, few := hz, fit := q2, ris := q3, led := l2.imp id fun z => q4.trans z }⟩)
  · rw [if_neg hf]
    refine wpAny_pure (hR _ sb ⟨_, es1, _, t2,
      { at_ := o1, ex := hx, dt := rfl, tx := g1, pm := p1, nd := nd, few := b1, fit := f2, ris := r2, led := l2 }⟩)
theorem tx_add {z : Str} {tk : Tok} {Q : Bool → Shared → Prop} (R : TxSet P w s.heap a zs) (room : zs.length + 1 < scanBound) (hQ : ∀ h' b, Heap.SameBut a s.heap h' → TxSet P w h' a (put1 zs z) → Q b { s with heap := h' }) : wpAny (model P w) A (setAddHashed a (.str z tk) ((PySem.strKind P w).hash z)) Q E s := by
  obtain ⟨o, es, ep, t, R⟩ := R
  have hk : (PySem.strKind P w).is z (.str z tk) = true := PySem.strKind_is P w z tk
  have el := tx_elems R.tx
  unfold setAddHashed setAddHashedIn
  refine wpAny_holding (wpAny_bind (wpAny_setState_of R.at_ R.dt R.fit ?_)); dsimp only
  rw [byScan_of (x := .str z tk) rfl R.few el]; simp only [↓reduceIte]; unfold setAddByScan
  refine wpAny_bind (wpAny_bind (wpAny_rule (wpAny_bind (wpAny_setScan_of hk R.at_ R.dt R.fit el ?_))))
  cases hfi : List.findIdx? (fun e => (PySem.strKind P w).is z e.2) es.toList with
  | some j =>
    obtain ⟨hj, pj, _⟩ := List.findIdx?_eq_some_iff_getElem.mp hfi
    have hm : z ∈ zs := by
      refine R.pm.mem_iff.mp (List.mem_map.mpr ⟨_, List.getElem_mem hj, ?_⟩)
      exact (tx_is (R.tx _ (List.getElem_mem hj)) z).mp pj
    have e1 : put1 zs z = zs := if_pos hm
    have q := fun b => hQ s.heap b (Heap.SameBut.refl a s.heap) (by rw [e1]; exact ⟨o, es, ep, t, R⟩)
    dsimp only; exact wpAny_pure (wpAny_pure (q _))
  | none =>
    have hno : z ∉ zs := fun hm => by
      obtain ⟨e, he, q⟩ := List.mem_map.mp (R.pm.mem_iff.mpr hm)
      have c := List.findIdx?_eq_none_iff.mp hfi e he
      rw [(tx_is (R.tx e he) z).mpr q] at c; cases c
    have e1 : put1 zs z = zs ++ [z] := if_neg hno
    dsimp only
    obtain ⟨Z, hZ⟩ : ∃ Z, Z = layNew t es ((PySem.strKind P w).hash z) (.str z tk) := ⟨_, rfl⟩
    have q1 := layNew_perm t es ((PySem.strKind P w).hash z) (.str z tk)
    have q2 := layNew_fits t es ((PySem.strKind P w).hash z) (.str z tk)
    have q3 := layNew_ris t es ((PySem.strKind P w).hash z) (.str z tk) R.ris
    have q4 := layNew_led t es ((PySem.strKind P w).hash z) (.str z tk)
    rw [← hZ] at q1 q2 q3 q4 ⊢
    obtain ⟨es1, t1, was, gave⟩ := Z
    dsimp only at q1 q2 q3 q4 ⊢
    rw [Array.toList_push] at q1
    have g1 : ∀ e ∈ es1.toList, IsTx P w e := fun e he => by
      rcases List.mem_append.mp (q1.mem_iff.mp he) with y | y
      · exact R.tx e y
      · rw [List.mem_singleton.mp y]; exact ⟨z, tk, rfl⟩
    have p1 : (es1.toList.map txOf).Perm (put1 zs z) := by
      rw [e1]
      refine (q1.map txOf).trans ?_
      rw [List.map_append]
      exact R.pm.append (.refl _)
    have sz : es1.size = zs.length + 1 := by
      have := p1.length_eq
      rw [e1] at this
      simpa using this
    have b1 : es1.size < scanBound := by omega
    have l1 : w.params.followText "set-order" = true ∨ t1.led = true := R.led.imp id fun y => q4.trans y
    have gw : ∀ (b : Bool) {s₁ : Shared} {Q' : Unit → Shared → Prop}, Q' () s₁ → wpAny (model P w) A (match b with | true => rule "set.scan.the-table-gave-way" | false => pure ()) Q' E s₁ := fun b s₁ Q' q => by
      cases b
      · exact wpAny_pure q
      · exact wpAny_rule q
    refine wpAny_bind (gw _ ?_)
    split
    · refine wpAny_bind ?_; rw [hashByValue_scannable 8 (x := .str z tk) rfl]; refine wpAny_pure ?_
      refine tx_store (ys := put1 zs z) ?_ R.at_ R.ex R.dt g1 p1 (put1_nd R.nd) b1 ?_ ?_ ?_ ?_
      · intro b s₁ Q' q
        cases b
        · exact wpAny_pure q
        · exact wpAny_rule q
      · first | (split <;> first | exact q2 | exact SetTable.fits_plain_off q2) | exact q2
      · first | (split <;> exact q3) | exact q3
      · first | (split <;> exact l1) | exact l1
      · intro h' sb r; dsimp only; exact wpAny_pure (hQ h' _ sb r)
    · refine wpAny_bind (wpAny_pure ?_); simp only [↓reduceIte]
      refine tx_store (ys := put1 zs z) ?_ R.at_ R.ex R.dt g1 p1 (put1_nd R.nd) b1 q2 q3 l1 ?_
      · intro b s₁ Q' q
        cases b
        · exact wpAny_pure q
        · exact wpAny_rule q
      · intro h' sb r; dsimp only; exact wpAny_pure (hQ h' _ sb r)
end
end VL
set_option linter.all false
set_option maxRecDepth 100000
set_option maxHeartbeats 3200000
namespace VL
open PySem PySem.Spec PyProof.Rows L2
/-! ## set(list of texts), sorted of it -/
/-- the texts, each once, as they came first -/
def once (xs : List Str) : List Str := xs.foldl put1 []
theorem fold_len : ∀ {xs zs : List Str}, (xs.foldl put1 zs).length ≤ zs.length + xs.length
  | [], zs => by simp
  | x :: xs, zs => by
    have h1 := fold_len (xs := xs) (zs := put1 zs x)
    have h2 := put1_len (zs := zs) (z := x)
    simp only [List.foldl_cons, List.length_cons]; omega
theorem once_len {xs : List Str} : (once xs).length ≤ xs.length := by
  have := fold_len (xs := xs) (zs := [])
  simpa [once] using this
theorem fold_mem : ∀ {xs zs : List Str} {y : Str}, y ∈ xs.foldl put1 zs ↔ y ∈ zs ∨ y ∈ xs
  | [], zs, y => by simp
  | x :: xs, zs, y => by
    simp only [List.foldl_cons, fold_mem (xs := xs), mem_put1, List.mem_cons]
    constructor
    · rintro ((h | h) | h)
      · exact .inl h
      · exact .inr (.inl h)
      · exact .inr (.inr h)
    · rintro (h | h | h)
      · exact .inl (.inl h)
      · exact .inl (.inr h)
      · exact .inr h
theorem mem_once {xs : List Str} {y : Str} : y ∈ once xs ↔ y ∈ xs := by simp [once, fold_mem]
theorem fold_nd : ∀ {xs zs : List Str}, zs.Nodup → (xs.foldl put1 zs).Nodup
  | [], _, h => h
  | x :: xs, _, h => fold_nd (xs := xs) (put1_nd h)
theorem once_nd {xs : List Str} : (once xs).Nodup := fold_nd List.nodup_nil
theorem once_next {xs : List Str} {i : Nat} {z : Str} (h : xs[i]? = some z) : once (xs.take (i + 1)) = put1 (once (xs.take i)) z := by
  rw [List.take_add_one, h, once, Option.toList_some, List.foldl_append]; rfl
abbrev newSetO (w : World) : Obj := { cls := .type "set", dict := none, data := .set #[] 0 (.fresh 0 0 (!w.params.followText "set-order")) }
theorem tx_fresh {P : Program} {w : World} {h : Heap} {a : Addr} (ho : h.get? a = some (newSetO w)) : TxSet P w h a [] := by
  refine ⟨_, #[], 0, _, { at_ := ho, ex := ⟨rfl, rfl, rfl⟩, dt := rfl, tx := fun e he => by simp at he, pm := .refl _, nd := List.nodup_nil, few := by decide, fit := rfl, ris := List.Pairwise.nil, led := ?_ }⟩
  cases hw : w.params.followText "set-order"
  · exact .inr rfl
  · exact .inl rfl
section
variable {P : Program} {w : World} {A : Around} {E : Value → Shared → Prop} {s : Shared} {I : Addr} {fp wr : List Addr} {G : Array GenState → Array GenState → Prop} {n : Nat} {Pv : Nat → Value → Prop} {St : Nat → Shared → Prop} {R : Result → Shared → Prop}
theorem tx_loop (W : WalksS P w A.in1 I fp wr G n Pv St) (S : Addr) (hS : S ∉ fp) (xs : List Str) (hn : n = xs.length) (hb : xs.length + 1 < scanBound) (hv : ∀ i v, Pv i v → ∃ z t, xs[i]? = some z ∧ v = .str z t) (m : Nat) :
    ∀ (i : Nat) (s : Shared), n - i = m → i ≤ n → St i s → TxSet P w s.heap S (once (xs.take i)) → (∀ s', Moved (S :: wr) G s s' → TxSet P w s'.heap S (once xs) → R (.ok (.ret .none)) s') → codeAny (model P w) A (.builtin "set.update.loop" ⟨[.ref S, .ref I], []⟩) R s := by
  have ws : S ∉ wr := fun h => hS (W.sub _ h)
  have sub : ∀ b ∈ wr, b ∈ S :: wr := fun b q => List.mem_cons_of_mem _ q
  induction m with
  | zero =>
    intro i s hm hi st hT hR
    obtain rfl : i = n := by omega
    refine codeAny_builtin F.entry_set_update_loop ?_; rw [Around.under_plainId F.plain_set_update_loop _]
    refine wpAny_bind (m := pyNext (.ref I)) (W.done s _ _ st fun s' mv => wpAny_pure (hR s' (mv.mono sub) ?_))
    rw [List.take_of_length_le (by omega)] at hT
    exact hT.at fun o e => mv.heap S o ws e
  | succ m ih =>
    intro i s hm hi st hT hR
    have lt : i < n := by omega
    refine codeAny_builtin F.entry_set_update_loop ?_; rw [Around.under_plainId F.plain_set_update_loop _]
    refine wpAny_bind (m := pyNext (.ref I)) (W.item i s _ _ lt st fun v s' hp st' mv => ?_)
    obtain ⟨z, t, hz, rfl⟩ := hv i v hp
    have hT' : TxSet P w s'.heap S (once (xs.take i)) := hT.at fun o e => mv.heap S o ws e
    have hl := once_len (xs := xs.take i)
    rw [List.length_take] at hl
    refine wpAny_bind (m := holding [Value.str z t] (setAdd S (.str z t))) (wpAny_holding ?_); unfold setAdd
    refine wpAny_holding (wpAny_bind ((PySem.strKind P w).pyHash (k := z) (PySem.strKind_is P w z t) ?_))
    refine tx_add (s := { s' with toks := s'.toks + 1 }) hT' (by omega) fun h' b sb hT2 => ?_
    have same : ∀ b o, b ∉ S :: wr → s'.heap.get? b = some o → h'.get? b = some o := fun b o q e => by
      rw [sb.2 b (fun y => q (by rw [y]; exact List.mem_cons_self))]; exact e
    refine wpAny_pure ⟨plainId_quiet F.plain_set_update_loop _, ih (i + 1) _ (by omega) lt (W.frame _ s' _ _ st' (Nat.le_succ _) fun b q o e => ?_) (by rw [once_next hz]; exact hT2) fun s'' mv' hT3 => ?_⟩
    · rw [sb.2 b (fun y => hS (by rw [← y]; exact q))]; exact e
    · exact hR s'' (Moved.trans W.gtrans ((mv.mono sub).then_heap (Nat.le_succ _) fun b o q e => same b o q e) mv') hT3
end
section
variable {P : Program} {w : World} {A : Around} {E : Value → Shared → Prop} {s : Shared}
theorem call_tx {l : Addr} {items : Array Value} {xs : List Str} {Q : Value → Shared → Prop} (hh : A.handled = none) (hl : s.heap.IsList l items) (hi : StrsAre items.toList xs) (hb : xs.length + 1 < scanBound)
    (h : ∀ (h' : Heap) (tk : Nat), TxSet P w h' s.heap.objs.size (once xs) → (∀ b o, s.heap.get? b = some o → h'.get? b = some o) → Q (.ref s.heap.objs.size) { s with heap := h', toks := tk }) : wpAny (model P w) A (call (.type "set") [.ref l]) Q E s := by
  obtain ⟨c, tl, mro⟩ := F.called_set.mro
  have made := F.called_set.made; have self := F.called_set.sub
  have k1 := F.called_set.notType; have k2 := F.called_set.canCreate; have k3 := F.typeCall_set_1 (.ref l)
  refine wpAny_call (codeAny_of_tree (wpAny_pure (⟨Code.quiet_builtin _ (by decide +kernel), codeAny_builtin F.entry_type_call ?_⟩ : _ ∧ _)))
  rw [Around.under_plain (weight_type_call_type "set" [.ref l] []) rfl]
  repeat (any_goals (first | assumption | wp_step))
  refine codeAny_mono (code_set_led1 (.ref l) (E := E) (Q₁ := fun obj s₁ => obj = .ref s.heap.objs.size ∧ s₁ = { s with heap := s.heap.push (newSetO w) }) ⟨rfl, rfl⟩) fun r s₁ hr => ?_
  rcases r with e | fl
  · exact hr
  cases fl with
  | ret obj =>
    obtain ⟨rfl, rfl⟩ := hr
    have hS : (s.heap.push (newSetO w)).get? s.heap.objs.size = some (newSetO w) := Heap.get?_push_size _ rfl
    have hT : Shared.TypeIs { s with heap := s.heap.push (newSetO w) } (.ref s.heap.objs.size) "set" := ⟨_, hS, rfl⟩
    have i1 := F.called_set.init.lookup; have i2 := F.called_set.init.bind (.ref s.heap.objs.size)
    repeat (any_goals (first | assumption | wp_step))
    refine codeAny_mono (codeAny_call_builtin (R := wants (fun r s₂ => r = .none ∧ ∃ h' tk, s₂ = { s with heap := h', toks := tk } ∧ TxSet P w h' s.heap.objs.size (once xs) ∧ ∀ b o, s.heap.get? b = some o → h'.get? b = some o) E) F.called_set.init.plain F.entry_set_init (check_set_init_1 hT ?_)) fun r₂ s₂ hr₂ => ?_
    · obtain ⟨⟨oc, od, odt, osl⟩, ho, hc, nl, hd⟩ := hl
      simp only at hc hd; subst hc; subst hd
      have ls : l < s.heap.objs.size := Heap.lt_size ho
      have ho' : (s.heap.push (newSetO w)).get? l = some { cls := .type "list", dict := od, data := .seq items nl, slots := osl } := Heap.get?_push_of_some _ ho
      have b1 := F.sub_list_set; have b2 := F.sub_list_frozenset
      have b3 : (Value.type "list" == Value.type "dict") = false := by decide
      have hl1 : (s.heap.push (newSetO w)).IsList l items := ⟨_, ho', rfl, nl, rfl⟩
      unfold Builtin.«set.__init__» noKeywords Builtin.Frozenset.updateFrom; generalize hPI : pyIter = PI; wp_walk; subst hPI
      refine wpAny_pyIter_list hl1 (wpAny_bind (wpAny_runValue ?_))
      have h3 : A.in1.in1.in1.handled = none := by simp [hh]
      have psz : (s.heap.push (newSetO w)).objs.size = s.heap.objs.size + 1 := Heap.size_push ..
      have ne : l ≠ (s.heap.push (newSetO w)).objs.size := fun e => by rw [psz] at e; exact absurd ls (by rw [e]; exact Nat.not_lt_of_le (Nat.le_succ _))
      have nf : s.heap.objs.size ∉ [(s.heap.push (newSetO w)).objs.size, l] := by
        rw [psz]; simp only [List.mem_cons, List.not_mem_nil, or_false, not_or]
        exact ⟨fun e => by have := Nat.lt_succ_self s.heap.objs.size; omega, fun e => by rw [← e] at ls; exact absurd ls (Nat.lt_irrefl _)⟩
      have hv : ∀ (i : Nat) (v : Value), items[i]? = some v → ∃ z t, xs[i]? = some z ∧ v = .str z t := fun i v e => by
        have len := StrsAre.len_eq hi
        rw [Array.length_toList] at len
        have lt : i < xs.length := by have := (Array.getElem?_eq_some_iff.mp e).1; omega
        obtain ⟨t, q⟩ := SS.strs_at hi i v (by rw [Array.getElem?_toList]; exact e)
        refine ⟨xs[i], t, List.getElem?_eq_getElem lt, ?_⟩
        rw [q, List.getD_eq_getElem?_getD, List.getElem?_eq_getElem lt]; rfl
      have isz : items.size = xs.length := by have := StrsAre.len_eq hi; rwa [Array.length_toList] at this
      refine tx_loop ((Walks.list h3 _ l ne items).toS) s.heap.objs.size nf xs isz hb hv (items.size - 0) 0 _ (by omega) (Nat.zero_le _) ⟨⟨_, Heap.get?_push_size _ rfl, rfl, rfl⟩, hl1.push _⟩ ?t0 ?tR
      case t0 => exact tx_fresh (Heap.get?_push_of_some _ hS)
      case tR =>
        rintro ⟨h', g2, d2, tk', os2⟩ mv hT'
        obtain rfl : g2 = s.gens := mv.gens
        obtain rfl : d2 = s.drawn := mv.drawn
        obtain rfl : os2 = s.os := mv.os
        refine wpAny_pure (wpAny_pure ⟨rfl, h', tk', rfl, hT', fun b o e => ?_⟩)
        have lb : b < s.heap.objs.size := Heap.lt_size e
        refine mv.heap b o ?_ (Heap.get?_push_of_some _ (Heap.get?_push_of_some _ e))
        rw [psz]; simp only [List.mem_cons, List.not_mem_nil, or_false, not_or]
        exact ⟨Nat.ne_of_lt lb, Nat.ne_of_lt (Nat.lt_succ_of_lt lb)⟩
    · rcases r₂ with e | fl₂
      · exact hr₂
      cases fl₂ with
      | ret r =>
        obtain ⟨rfl, h', tk, rfl, hT', hk⟩ := hr₂
        repeat (any_goals (first | assumption | wp_step))
        exact h _ _ hT' hk
      | _ => exact hr₂.elim
  | _ => exact hr.elim
end
end VL
set_option linter.all false
set_option maxRecDepth 100000
set_option maxHeartbeats 3200000
namespace VL
open PySem PySem.Spec PyProof.Rows L2
/-! ## sorted(set(e)), e a list of texts -/
section
variable {X : Cx} {W : WX} {K : PySem.W.Frag} {k : Nat}
def tSS (X : Cx) (t : TE) : TE := fun σ H Q => t σ H fun x H1 => ∃ (a : Addr) (xs : List Str), x = .ref a ∧ SqL X.K H1 a (xs.map V.str) ∧ xs.length + 1 < scanBound ∧ ∀ (ys : List Str) (p : Addr), ys.Perm (once xs) → sortedS ys = true → H1 p = none → Q (.ref p) (upd H1 p (.lst (ys.map V.str)))
theorem sort_tx {pins : List (Addr × Obj)} {σ : L2.St} {H : Hp} {s : Shared} {a : Addr} {zs : List Str} {Q : VK} (calm : X.calm = true) (I : Inv X pins σ H s) (R : TxSet X.prog X.w s.heap a zs) (q : ∀ (ys : List Str) (p : Addr), ys.Perm zs → sortedS ys = true → H p = none → Q (.ref p) (upd H p (.lst (ys.map V.str)))) :
    wpAny (model X.prog X.w) X.A (call (.builtin "sorted") [.ref a]) (EP X pins σ Q) X.xe s := by
  obtain ⟨o, es, ep, t, R⟩ := R
  refine Calls.call_function_entry PyProof.Rows.kind_sorted PyProof.Rows.plain_sorted PyProof.Rows.entry_sorted (PyProof.Rows.args_sorted1 _) ?_; unfold Builtin.«sorted»
  refine wpAny_bind (m := checkCount "sorted" 1 1 _) (wpAny_pure (wpAny_bind (collect_set (A := X.A.in1) (I.ok.hd calm) ⟨o, R.at_, R.ex.1, R.dt⟩ R.fit R.few R.ris R.led fun s' vs keep big gens os pm => ?_)))
  have len : vs.length = zs.length := by
    have h1 := pm.length_eq
    have h2 := R.len
    rw [List.length_map] at h1
    rw [← Array.length_toList] at h2
    exact h1.trans h2
  have small : zs.length ≤ sizeLine := by rw [← R.len]; exact fits_of_scanBound R.few
  obtain ⟨xs, hxs, px⟩ : ∃ xs, StrsAre vs xs ∧ xs.Perm zs := by
    have mk : ∀ l : List Value, (∀ v ∈ l, ∃ z t, v = Value.str z t) → StrsAre l (l.map fun v => txOf (0, v)) := by
      intro l
      induction l with
      | nil => intro _; exact .nil
      | cons v l ih =>
        intro hl
        obtain ⟨z, t, rfl⟩ := hl v (by simp)
        exact .cons z t (ih fun u hu => hl u (by simp [hu]))
    refine ⟨_, mk vs fun v hv => ?_, ?_⟩
    · obtain ⟨e, he, rfl⟩ := List.mem_map.mp (pm.mem_iff.mp hv)
      obtain ⟨z, t, rfl⟩ := R.tx e he
      exact ⟨z, t, rfl⟩
    · have h1 := pm.map fun v => txOf (0, v)
      rw [List.map_map] at h1
      exact h1.trans R.pm
  refine wpAny_bind (wpAny_newList ?_ (by rw [len]; exact small))
  have hl : (s'.heap.push (seqObj "list" vs.toArray 0)).get? s'.heap.objs.size = some (seqObj "list" vs.toArray 0) := Heap.get?_push_size _ rfl
  refine wpAny_bind (wpAny_holding (wpAny_call_entry PyProof.Rows.slot_list_sort ⟨_, hl, rfl⟩ PyProof.Rows.entry_list_sort (PyProof.Rows.list_sort_treeKAny strKind_oneLt (s := { s' with heap := s'.heap.push (seqObj "list" vs.toArray 0) }) hl hxs.keysOf
    (fun v₁ v₂ rest e => keyKind_strs (by rw [← e]; exact hxs)) (by rw [len]; exact small) fun st' hp hs => ⟨_, rfl, ?_⟩) (PyProof.Rows.args_list_sort _)))
  obtain ⟨ys, g1, g2, g3⟩ := sorted_out_str hxs hp hs
  generalize hout : (Array.map (fun x => x.snd) (arrOf st') : Array Value) = out at g1
  obtain ⟨h', g', d', t', o'⟩ := s'
  obtain rfl : g' = s.gens := gens
  obtain rfl : o' = s.os := os
  obtain ⟨c, hc⟩ := PyProof.Rows.sortedHeap_at (vs := vs) (out := out) hl
  have none_ : H h'.objs.size = none := I.hok.fresh big
  have keep2 : ∀ b u, s.heap.get? b = some u → (sortedHeap (h'.push (seqObj "list" vs.toArray 0)) h'.objs.size vs out).get? b = some u := fun b u e => by
    have e' := keep b u e
    have lt := Heap.lt_size e'
    rw [PyProof.Rows.sortedHeap_old (Nat.ne_of_lt lt) (by rw [Heap.size_push]; exact Nat.lt_succ_of_lt lt)]; exact Heap.get?_push_of_some _ e'
  have fit : (ys.map V.str).length ≤ sizeLine := by rw [List.length_map, g2.length_eq, px.length_eq]; exact small
  have J : Inv X pins σ (upd H h'.objs.size (.lst (ys.map V.str))) { s with heap := sortedHeap (h'.push (seqObj "list" vs.toArray 0)) h'.objs.size vs out, drawn := d', toks := t' } :=
    I.call (ch := []) (Un.laid keep2 big none_) (I.hok.laid keep2 big ⟨fit, out.toList, c, vals_of_strs g1, by rw [Array.toArray_toList]; exact hc⟩) I.bare (fun _ z => nomatch z)
  exact wpAny_pure ⟨_, rfl, .ref _, _, J, rfl, q ys _ (g2.trans px) g3 none_⟩
theorem pe_ss {e : Expr} {t : TE} {p p2 pos pos2 : Pos} (calm : X.calm = true) (hg : Gl X "sorted") (hm : X.mg "sorted" = none) (hg2 : Gl X "set") (hm2 : X.mg "set" = none) (ha : PE X e t)
    (he : starEach [.Call (.Name "set" p2) [e] [] pos2] X.env = (false, eval (.Call (.Name "set" p2) [e] [] pos2) X.env) :: starEach [] X.env := by rfl) (hpl : (backTo pos (starEach [] X.env)).any (·.1) = false := by rfl)
    (he2 : starEach [e] X.env = (false, eval e X.env) :: starEach [] X.env := by rfl) (hpl2 : (backTo pos2 (starEach [] X.env)).any (·.1) = false := by rfl) : PE X (.Call (.Name "sorted" p) [.Call (.Name "set" p2) [e] [] pos2] [] pos) (tSS X t) := by
  refine ⟨fun pins s σ H Q I h => ?_⟩
  refine wpAny_Call_Name_kw (ld_blt I hg hm (by decide +kernel : bootBuiltins "sorted" = some (.builtin "sorted")) (PyProof.Rows.callWith_builtin1 ?_ he hpl))
  rw [he]
  have inner : ∀ (R : Value → Shared → Prop), (∀ (a : Addr) (zs : List Str) (H1 : Hp) (s1 : Shared), Inv X pins σ H1 s1 → TxSet X.prog X.w s1.heap a zs → (∀ (ys : List Str) (p : Addr), ys.Perm zs → sortedS ys = true → H1 p = none → Q (.ref p) (upd H1 p (.lst (ys.map V.str)))) → R (.ref a) s1) →
      wpAny (model X.prog X.w) X.A (eval (.Call (.Name "set" p2) [e] [] pos2) X.env) R X.xe s := fun R hR => by
    refine wpAny_Call_Name_kw (ld_blt I hg2 hm2 (by decide +kernel : bootBuiltins "set" = some (.type "set")) (PyProof.Rows.callWith_type1 ?_ he2 hpl2))
    rw [he2]
    show wpAny _ _ (spliced ((false, eval e X.env) :: backTo pos2 (starEach [] X.env))) _ _ s
    refine Calls.spliced_cons (thn (ha.run pins s σ H _ I h) fun u s1 ⟨x, H1, I1, rx, a, xs, ex, hs, few, q⟩ => Calls.spliced_nil ?_)
    subst ex
    obtain rfl : u = Value.ref a := rx
    obtain ⟨its, rv, hl, hz⟩ := I1.list hs
    refine call_tx (I1.ok.hd calm) hl.isList rv.strs few fun h' tk T keep => hR _ _ H1 _ (I1.kept keep) T q
  show wpAny _ _ (spliced ((false, eval (.Call (.Name "set" p2) [e] [] pos2) X.env) :: backTo pos (starEach [] X.env))) _ _ s
  refine Calls.spliced_cons (inner _ fun a zs H1 s1 I1 T q => Calls.spliced_nil ?_)
  exact sort_tx calm I1 T q
def vSS (d : D) : Option D := (dLs d).bind fun ds => (asStrs ds).bind fun zs => if zs.length ≤ 4000 then some (.lst ((sortS (once zs)).map .str)) else none
def oSS (tb : VTB) : VTO := fun env Q E => tb env (fun b env1 => ∃ d r, b.get env1 = some d ∧ vSS d = some r ∧ Q (.ow r) env1) E
theorem vo_ss {e : Expr} {tb : VTB} {p p2 pos pos2 : Pos} (cx : VC X W k) (hg : Gl X "sorted") (hm : X.mg "sorted" = none) (hg2 : Gl X "set") (hm2 : X.mg "set" = none) (hb : VB X W e tb)
    (he : starEach [.Call (.Name "set" p2) [e] [] pos2] X.env = (false, eval (.Call (.Name "set" p2) [e] [] pos2) X.env) :: starEach [] X.env := by rfl) (hpl : (backTo pos (starEach [] X.env)).any (·.1) = false := by rfl)
    (he2 : starEach [e] X.env = (false, eval e X.env) :: starEach [] X.env := by rfl) (hpl2 : (backTo pos2 (starEach [] X.env)).any (·.1) = false := by rfl) : VO X W (.Call (.Name "sorted" p) [.Call (.Name "set" p2) [e] [] pos2] [] pos) (oSS tb) := by
  obtain ⟨te, p1, s1⟩ := hb.ex
  refine ⟨_, pe_ss cx.calm hg hm hg2 hm2 p1 he hpl he2 hpl2, fun F env σ G H Q E Qh k xo ht q => ?_⟩
  refine s1 F env σ G H _ E _ k xo ht fun b env1 v G1 H1 k1 g1 r1 ⟨d, r, e1, e2, hq⟩ => ?_
  obtain ⟨ds, en, e2⟩ := Option.bind_eq_some_iff.mp e2
  obtain ⟨zs, e3, e2⟩ := Option.bind_eq_some_iff.mp e2
  split at e2
  · rename_i hfew
    cases e2
    obtain ⟨a, ys, rfl, h, z, rs⟩ := ls_of (k1.read e1 r1) k1.sub en
    obtain ⟨rfl, hz⟩ := strs_of rs e3
    rw [List.length_map] at z
    refine ⟨a, zs, rfl, h, by unfold scanBound; omega, fun ys l hp hs hl => ?_⟩
    have := sortS_unique hp hs; subst this
    have ol := once_len (xs := zs)
    obtain ⟨k2, ro⟩ := ro_lst k1 hl (xs := (sortS (once zs)).map V.str) (by rw [List.length_map, hp.length_eq]; omega) (reps_strs fun y hy => hz y (mem_once.mp (hp.mem_iff.mp hy)))
    exact q _ _ _ _ _ k2 g1 ro hq
  · cases e2
end
@[simp ↓] theorem o_ss {tb : VTB} {env : En} {Q : Sv → En → Prop} {E : XQ} : oSS tb env Q E = tb env (fun b env1 => bq ((b.get env1).bind vSS) fun r => Q (.ow r) env1) E := by
  unfold oSS
  congr 1
  funext b env1
  apply propext
  simp only [bq]
  constructor
  · rintro ⟨d, r, h1, h2, h3⟩; exact ⟨r, Option.bind_eq_some_iff.mpr ⟨d, h1, h2⟩, h3⟩
  · rintro ⟨r, h1, h3⟩
    obtain ⟨d, h1, h2⟩ := Option.bind_eq_some_iff.mp h1
    exact ⟨d, r, h1, h2, h3⟩
theorem ss_strs {l : List Str} (h : l.length ≤ 4000) : vSS (.lst (l.map .str)) = some (.lst ((sortS (once l)).map .str)) := by
  simp [vSS, asStrs_map, h]
end VL
set_option linter.all false
set_option maxRecDepth 100000
set_option maxHeartbeats 400000
namespace VL
open PySem PySem.Spec PyProof.Rows L2
/-! ## a chain of three comparisons -/
section
variable {X : Cx} {W : WX} {K : PySem.W.Frag} {k : Nat}
def tChain3 (r r' r'' : R2) (ta tb tc td : TE) : TE := fun σ H Q => ta σ H fun x H1 => tb σ H1 fun y H2 => r x y H2 fun z H3 => ∃ k, z = .bl k ∧
  (if k = true then tc σ H3 fun u H4 => r' y u H4 fun z2 H5 => ∃ k2, z2 = .bl k2 ∧ (if k2 = true then td σ H5 fun v H6 => r'' u v H6 Q else Q (.bl false) H5) else Q (.bl false) H3)
theorem pe_chain3 {op op' op'' : CmpOp} {a b c d : Expr} {pos : Pos} {r r' r'' : R2} {ta tb tc td : TE} (ho : OpR X (compareOp op) r) (ho' : OpR X (compareOp op') r') (ho'' : OpR X (compareOp op'') r'') (ha : PE X a ta) (hb : PE X b tb) (hc : PE X c tc) (hd : PE X d td)
    (hm : lastMarks [op, op', op''] [b, c, d] = false := by with_unfolding_all rfl) : PE X (.Compare a [op, op', op''] [b, c, d] pos) (tChain3 r r' r'' ta tb tc td) := by
  refine ⟨fun pins s σ H Q I h => ?_⟩
  refine Compare_chain (thn (ha.run pins s σ H _ I h) fun v s1 ⟨x, H1, I1, r1, q1⟩ => chain_link (thn (hb.run pins s1 σ H1 _ I1 q1) fun u s2 ⟨y, H2, I2, r2, q2⟩ => thn (ho pins s2 σ H2 x y v u _ I2 r1 r2 q2) fun e s3 ⟨z, H3, I3, r3, k, e1, q3⟩ => ?_)) hm
  subst e1; cases r3
  refine wpAny_truthy_bool ?_
  cases k with
  | false => exact ite_ff ⟨.bl false, H3, I3, rfl, q3⟩
  | true =>
    refine ite_tt (chain_link (thn (hc.run pins s3 σ H3 _ I3 q3) fun v' s4 ⟨x', H4, I4, r4, q4⟩ => thn (ho' pins s4 σ H4 y x' u v' _ I4 r2 r4 q4) fun e s5 ⟨z2, H5, I5, r5, k2, e2, q5⟩ => ?_))
    subst e2; cases r5
    refine wpAny_truthy_bool ?_
    cases k2 with
    | false => exact ite_ff ⟨.bl false, H5, I5, rfl, q5⟩
    | true => exact ite_tt (chain_last (thn (hd.run pins s5 σ H5 _ I5 q5) fun w' s6 ⟨z', H6, I6, r6, q6⟩ => ho'' pins s6 σ H6 x' z' v' w' Q I6 r4 r6 q6))
def oChain3 (f f' f'' : D → D → Option Sv) (ta tb tc td : VTB) : VTO := fun env Q E => ta env (fun a env1 => tb env1 (fun b env2 => ∃ x y c, a.get env2 = some x ∧ b.get env2 = some y ∧ f x y = some (.sh (.bl c)) ∧
  if c = true then tc env2 (fun d env3 => ∃ y z c2, b.get env3 = some y ∧ d.get env3 = some z ∧ f' y z = some (.sh (.bl c2)) ∧
    if c2 = true then td env3 (fun e env4 => ∃ y z r, d.get env4 = some y ∧ e.get env4 = some z ∧ f'' y z = some r ∧ Q r env4) E else Q (.sh (.bl false)) env3) E else Q (.sh (.bl false)) env2) E) E
theorem vo_chain3 {op op' op'' : CmpOp} {a b c d : Expr} {pos : Pos} {r r' r'' : R2} {f f' f'' : D → D → Option Sv} {ta tb tc td : VTB} (ho : OpR X (compareOp op) r) (ho' : OpR X (compareOp op') r') (ho'' : OpR X (compareOp op'') r'') (s : OpSnd X.K r f) (s' : OpSnd X.K r' f') (s'' : OpSnd X.K r'' f'') (ha : VB X W a ta) (hb : VB X W b tb) (hc : VB X W c tc) (hd : VB X W d td)
    (hm : lastMarks [op, op', op''] [b, c, d] = false := by with_unfolding_all rfl) : VO X W (.Compare a [op, op', op''] [b, c, d] pos) (oChain3 f f' f'' ta tb tc td) := by
  obtain ⟨pa, p1, s1⟩ := ha.ex
  obtain ⟨pb, p2, s2⟩ := hb.ex
  obtain ⟨pc, p3, s3⟩ := hc.ex
  obtain ⟨pd, p4, s4⟩ := hd.ex
  refine ⟨_, pe_chain3 ho ho' ho'' p1 p2 p3 p4 hm, fun F env σ G H Q E Qh k xo ht q => ?_⟩
  refine s1 F env σ G H _ E _ k xo ht fun a env1 v1 G1 H1 k1 g1 r1 ht1 => ?_
  refine s2 F env1 σ G1 H1 _ E _ k1 xo ht1 fun b env2 v2 G2 H2 k2 g2 r2 ⟨x, y, c, ex, ey, er, hq⟩ => ?_
  refine s F env2 σ G2 H2 x y v1 v2 _ _ k2 (k2.read ex (r1.gle g2)) (k2.read ey r2) er fun v G3 H3 k3 g3 ro => ⟨c, rep_blv (K := X.K) (G := G3) ro, ?_⟩
  cases c with
  | true =>
    rw [if_pos rfl] at hq ⊢
    refine s3 F env2 σ G3 H3 _ E _ k3 xo hq fun d env3 v3 G4 H4 k4 g4 r4 ⟨y', z, c2, ey', ez, er', hq⟩ => ?_
    refine s' F env3 σ G4 H4 y' z v2 v3 _ _ k4 (k4.read ey' ((r2.gle g3).gle g4)) (k4.read ez r4) er' fun v G5 H5 k5 g5 ro => ⟨c2, rep_blv (K := X.K) (G := G5) ro, ?_⟩
    cases c2 with
    | true =>
      rw [if_pos rfl] at hq ⊢
      refine s4 F env3 σ G5 H5 _ E _ k5 xo hq fun e env4 v4 G6 H6 k6 g6 r6 ⟨y2, z2, res, ey2, ez2, er2, hq⟩ => ?_
      exact s'' F env4 σ G6 H6 y2 z2 v3 v4 res _ k6 (k6.read ey2 ((r4.gle g5).gle g6)) (k6.read ez2 r6) er2 fun v G7 H7 k7 g7 ro => q res env4 v G7 H7 k7 ((((((g1.trans g2).trans g3).trans g4).trans g5).trans g6).trans g7) ro hq
    | false =>
      rw [if_neg Bool.false_ne_true] at hq ⊢
      exact q _ env3 _ G5 H5 k5 ((((g1.trans g2).trans g3).trans g4).trans g5) ro_bl hq
  | false =>
    rw [if_neg Bool.false_ne_true] at hq ⊢
    exact q _ env2 _ G3 H3 k3 ((g1.trans g2).trans g3) ro_bl hq
end
@[simp ↓] theorem o_chain3 {tb tc td te : VTB} {env : En} {E : XQ} {Qs : Sv → En → Prop} {f g h : D → D → Option Sv} : oChain3 f g h tb tc td te env Qs E = tb env (fun a env1 => tc env1 (fun b env2 => bq (a.get env2) fun x => bq (b.get env2) fun y => bq ((f x y).bind fun s => asBlS s) fun c =>
  if c = true then td env2 (fun d env3 => bq (b.get env3) fun y => bq (d.get env3) fun z => bq ((g y z).bind fun s => asBlS s) fun c2 => if c2 = true then te env3 (fun e env4 => bq (d.get env4) fun y => bq (e.get env4) fun z => bq (h y z) fun r => Qs r env4) E else Qs (.sh (.bl false)) env3) E else Qs (.sh (.bl false)) env2) E) E := by
  simp only [oChain3, bq, exists_and_left, exists_and_right, and_assoc, asBl_eq, asStr_eq, asDct_eq, asInt_eq, asInt1_eq, asBlS_eq, Prod.exists, cl]
end VL
set_option linter.all false
set_option maxRecDepth 100000
set_option maxHeartbeats 400000
namespace VL
open PySem PySem.Spec PyProof.Rows L2
/-! ## a tuple, some times -/
section
variable {X : Cx} {W : WX} {K : PySem.W.Frag} {k : Nat}
def vMulT (x y : D) : Option Sv := match x, y with
  | .tup a, .int n => if decide (2 ≤ n) && decide (n ≤ 1000) && decide (1 ≤ a.length) && decide (a.length ≤ 1000) then some (.sh (.tup (List.replicate n.toNat a).flatten)) else none
  | _, _ => none
theorem snd_mulT : OpSnd K (rRepT K) vMulT := by
  intro F env σ G H x y vx vy res Qh k rx ry e q
  unfold vMulT at e
  split at e
  · split at e
    · rename_i a n hc
      cases e
      simp only [Bool.and_eq_true, decide_eq_true_eq] at hc
      obtain ⟨⟨⟨c1, c2⟩, c3⟩, c4⟩ := hc
      obtain ⟨p1, xs, rfl, g1, h1, z1, r1⟩ := rx.tup k.sub
      have e2 := ry.int; subst e2
      have hl := r1.len
      have hz : (List.replicate n.toNat xs).flatten.length ≤ sizeLine := by
        rw [List.length_flatten, List.map_replicate, List.sum_replicate_nat, hl, sizeLine_eq]
        have : n.toNat * a.length ≤ 1000 * 1000 := Nat.mul_le_mul (by omega) c4
        omega
      refine ⟨p1, n, xs, rfl, rfl, .of h1, fun e => ?_, c1, c2, by omega, fun p hp => ?_⟩
      · subst e; simp at hl; omega
      · obtain ⟨k1, g, rp⟩ := ro_tup k hp hz (r1.rep n.toNat)
        exact q _ _ _ k1 g rp
    · cases e
  · cases e
theorem vo_mulT {a b : Expr} {pos : Pos} {ta tb : VTB} (ha : VB X W a ta) (hb : VB X W b tb) : VO X W (.BinOp a .Mult b pos) (oOp vMulT ta tb) := vo_op op_repT snd_mulT ha hb
end
end VL
set_option linter.all false
set_option maxRecDepth 100000
set_option maxHeartbeats 400000
namespace VL
open PySem PySem.Spec PyProof.Rows L2
/-! ## a list of texts that the module writes -/
/-- the name x is a written list of these texts -/
def KLst (K : PySem.W.Frag) (mg : Str → Option Value) (x : Str) (l : List Str) : Prop := ∃ a, mg x = some (.ref a) ∧ SqL K (fun _ => none) a (l.map V.str) ∧ (∀ z ∈ l, z.length ≤ sizeLine) ∧ l.length ≤ sizeLine
theorem sql_any {K : PySem.W.Frag} {H : Hp} {a : Addr} {xs : List V} (h : SqL K (fun _ => none) a xs) : SqL K H a xs := by
  rcases h with h | h
  · rcases h with h | ⟨o, h⟩ <;> cases h
  · exact .inr h
section
variable {X : Cx} {W : WX} {K : PySem.W.Frag} {k : Nat}
theorem reps_kl {K : PySem.W.Frag} {G : Hp} : ∀ {l : List Str}, (∀ z ∈ l, z.length ≤ sizeLine) → Reps K G (l.map D.str) (l.map V.str)
  | [], _ => .nil
  | z :: l, h => .cons (rep_str (h z (by simp))) (reps_kl fun y hy => h y (by simp [hy]))
theorem ve_glst {x : Str} {l : List Str} {pos : Pos} (T : KLst X.K X.mg x l) (hg : Gl X x) (hd : (x == ("__debug__" : Str)) = false := by decide) : VE X W (.Name x pos) (vC (.fzl (l.map .str))) := by
  obtain ⟨a, h1, h2, h3, h4⟩ := T
  refine ⟨_, pe_glob (v := .ref a) hg h1 rfl hd, fun F env σ G H Q E Qh k xo ht q => q _ _ _ _ _ k (Gle.refl _) ?_ ht⟩
  exact ⟨a, l.map V.str, rfl, sql_any h2, by simpa using h4, reps_kl h3⟩
end
def strsB : List Value → List Str → Bool
  | [], [] => true
  | .str z _ :: vs, w :: ws => decide (z = w) && decide (w.length ≤ sizeLine) && strsB vs ws
  | _, _ => false
def klB (K : PySem.W.Frag) (a : Addr) (l : List Str) : Bool := match K.lookup a with
  | some ⟨.type c, none, .seq its _, _⟩ => decide (c = "list") && decide (its.size ≤ sizeLine) && strsB its.toList l
  | _ => false
theorem strsB_ok : ∀ {vs : List Value} {l : List Str}, strsB vs l = true → Vals (l.map V.str) vs ∧ ∀ z ∈ l, z.length ≤ sizeLine
  | [], [], _ => ⟨.nil, fun z hz => by cases hz⟩
  | v :: vs, [], h => by unfold strsB at h; split at h <;> simp_all
  | [], w :: ws, h => by simp [strsB] at h
  | v :: vs, w :: ws, h => by
    unfold strsB at h
    split at h
    · rename_i h1 h2; cases h1
    · rename_i z t vs' w' ws' h1 h2
      cases h1; cases h2
      simp only [Bool.and_eq_true, decide_eq_true_eq] at h
      obtain ⟨⟨rfl, hl⟩, h3⟩ := h
      obtain ⟨i1, i2⟩ := strsB_ok h3
      exact ⟨.cons ⟨_, rfl⟩ i1, fun y hy => by rcases List.mem_cons.mp hy with rfl | hy; exact hl; exact i2 y hy⟩
    · cases h
theorem klB_ok {K : PySem.W.Frag} {mg : Str → Option Value} {x : Str} {a : Addr} {l : List Str} (hm : mg x = some (.ref a)) (h : klB K a l = true) : KLst K mg x l := by
  unfold klB at h
  split at h
  · rename_i c its n sl hl
    simp only [Bool.and_eq_true, decide_eq_true_eq] at h
    obtain ⟨⟨rfl, hz⟩, hs⟩ := h
    obtain ⟨h1, h2⟩ := strsB_ok hs
    have hlen := h1.length
    refine ⟨a, hm, .inr ⟨_, its, n, hl, rfl, rfl, rfl, hz, h1⟩, h2, ?_⟩
    simp at hlen; omega
  · cases h
end VL
set_option linter.all false
set_option maxRecDepth 100000
set_option maxHeartbeats 4000000
namespace VL
open PySem PySem.Spec PyProof.Rows L2
def i_BadText : List (Str × Bool) := [("NestError", false), ("BadThing", false), ("BadText", true), ("BadWay", false), ("NoWay", false), ("NoGo", false), ("Nothing", false)]
def i_BadThing : List (Str × Bool) := [("NestError", false), ("BadThing", true), ("BadText", false), ("BadWay", false), ("NoWay", false), ("NoGo", false), ("Nothing", false)]
def i_BadWay : List (Str × Bool) := [("NestError", false), ("BadThing", false), ("BadText", false), ("BadWay", true), ("NoWay", false), ("NoGo", false), ("Nothing", false)]
def i_NoGo : List (Str × Bool) := [("NestError", false), ("BadThing", false), ("BadText", false), ("BadWay", false), ("NoWay", false), ("NoGo", true), ("Nothing", false)]
def i_NoWay : List (Str × Bool) := [("NestError", false), ("BadThing", false), ("BadText", false), ("BadWay", false), ("NoWay", true), ("NoGo", false), ("Nothing", false)]
def i_Nothing : List (Str × Bool) := [("NestError", false), ("BadThing", false), ("BadText", false), ("BadWay", false), ("NoWay", false), ("NoGo", false), ("Nothing", true)]
def i_ValueError : List (Str × Bool) := [("NestError", true), ("BadThing", true), ("BadText", true), ("BadWay", true), ("NoWay", true), ("NoGo", true), ("Nothing", true)]
def m_NestError : List (Str × Bool) := [("NestError", true), ("BadThing", true), ("BadText", true), ("BadWay", true), ("NoWay", true), ("NoGo", true), ("Nothing", true)]
def kt_SIZES : List (Str × Option Int) := [("any", some 1), ("none", some 1), ("truth", some 1), ("number", some 3), ("word", some 2), ("row", some 4), ("table", some 3), ("or", some 2), ("all", none), ("x", none), ("", none)]
def kl_KINDS : List Str := ["none", "truth", "number", "word", "row", "table"]
def K_kind_of_1 : VTS := (sRet (eO (oE (oIf (tTru (eB (oIsi (isBf .list) (bVar 0)))) (eO (vC (.str "row"))) (eO (vC (.str "table")))))))
def K_kind_of_2 : VTS := (sSeq (sIf (tTru (eB (oIsi (isBf .str) (bVar 0)))) (sRet (eO (vC (.str "word")))) sNext) (K_kind_of_1))
def K_kind_of_3 : VTS := (sSeq (sIf (tTru (eB (oIsi (isBf .int) (bVar 0)))) (sRet (eO (vC (.str "number")))) sNext) (K_kind_of_2))
def K_kind_of_4 : VTS := (sSeq (sIf (tTru (eB (oIsi (isBf .bool) (bVar 0)))) (sRet (eO (vC (.str "truth")))) sNext) (K_kind_of_3))
def T_kind_of : VTS := (sSeq (sIf (tVal (oE (oOp vIsN (bVar 0) (eB (vC .non))))) (sRet (eO (vC (.str "none")))) sNext) (K_kind_of_4))
def T_is_sign : VTS := (sRet (eO (vAndV (oE (oChain vLe vLt (eB (vC (.int 32))) (eB (oE (oCB vOrd (aCons (bVar 0) aNil)))) (eB (vC (.int 127))))) (oE (oOp vNe (eB (oE (oCB vOrd (aCons (bVar 0) aNil)))) (eB (vC (.int 37))))))))
def T_is_word (S_is_sign : VSp) : VTS := (sRet (eO (vAndV (oE (oOp vLe (eB (oE (oCB vLen (aCons (bVar 0) aNil)))) (eB (vC (.int 60))))) (oE (oCB vAll (aCons (eB (oE (oLc (iSt (vVar 0)) 1 tYes2 (oE (oCall 1 S_is_sign (aCons (eB (vVar 1)) aNil)))))) aNil))))))
def K_is_thing_1 (S_kind_of S_is_word S_inner_things S_is_thing : VSp) : VTS := (sRet (eO (oE (oCB vAll (aCons (eB (oE (oLc (iLs (oE (oCall 1 S_inner_things (aCons (eB (vVar 0)) aNil)))) 3 tYes2 (oE (oCall 2 S_is_thing (aCons (eB (vVar 3)) (aCons (eB (oE (oOp vAdd (bVar 1) (eB (vC (.int 1)))))) aNil))))))) aNil)))))
def K_is_thing_2 (S_kind_of S_is_word S_inner_things S_is_thing : VSp) : VTS := (sSeq (sIf (tOr2 (tVal (oE (oOp vEq (bVar 1) (eB (vC (.int 12)))))) (tAnd2 (tVal (oE (oOp vEq (bVar 2) (eB (vC (.str "table")))))) (tNot2 (tTru (eB (oE (oCB vAll (aCons (eB (oE (oLcV true 0 4 tYes2 (oE (oCall 1 S_is_word (aCons (eB (vVar 4)) aNil)))))) aNil)))))))) (sRet (eO (vC (.bl false)))) sNext) (K_is_thing_1 S_kind_of S_is_word S_inner_things S_is_thing))
def K_is_thing_3 (S_kind_of S_is_word S_inner_things S_is_thing : VSp) : VTS := (sSeq (sIf (tVal (oE (oOp vNotIn (bVar 2) (eB (oTup (aCons (eB (vC (.str "row"))) (aCons (eB (vC (.str "table"))) aNil))))))) (sRet (eO (vC (.bl true)))) sNext) (K_is_thing_2 S_kind_of S_is_word S_inner_things S_is_thing))
def K_is_thing_4 (S_kind_of S_is_word S_inner_things S_is_thing : VSp) : VTS := (sSeq (sIf (tVal (oE (oOp vEq (bVar 2) (eB (vC (.str "word")))))) (sRet (eO (oE (oCall 1 S_is_word (aCons (eB (vVar 0)) aNil))))) sNext) (K_is_thing_3 S_kind_of S_is_word S_inner_things S_is_thing))
def K_is_thing_5 (S_kind_of S_is_word S_inner_things S_is_thing : VSp) : VTS := (sSeq (sIf (tVal (oE (oOp vEq (bVar 2) (eB (vC (.str "number")))))) (sRet (eO (oE (oOp vLe (eB (oE (oCB vAbs (aCons (bVar 0) aNil)))) (eB (vC (.int 999999999999999))))))) sNext) (K_is_thing_4 S_kind_of S_is_word S_inner_things S_is_thing))
def T_is_thing (S_kind_of S_is_word S_inner_things S_is_thing : VSp) : VTS := (sSeq (sSet 2 (eO (oE (oCall 1 S_kind_of (aCons (eB (vVar 0)) aNil))))) (K_is_thing_5 S_kind_of S_is_word S_inner_things S_is_thing))
def K_inner_things_1 (S_kind_of : VSp) : VTS := (sRet (eO (oE (oIf (tVal (oE (oOp vEq (eB (oE (oCall 1 S_kind_of (aCons (eB (vVar 0)) aNil)))) (eB (vC (.str "table")))))) (oLc (iLs (oE (oVw true (fun kvs => srt (vwD true kvs)) (bVar 0)))) 1 tYes2 (oE (oOp vIx (bVar 0) (bVar 1)))) (oLst aNil)))))
def T_inner_things (S_kind_of : VSp) : VTS := (sSeq (sIf (tVal (oE (oOp vEq (eB (oE (oCall 1 S_kind_of (aCons (eB (vVar 0)) aNil)))) (eB (vC (.str "row")))))) (sRet (eO (oE (oCB vListOf (aCons (bVar 0) aNil))))) sNext) (K_inner_things_1 S_kind_of))
def T_look_thing (S_is_thing : VSp) : VTS := (sIf (tNot2 (tTru (eB (oE (oCall 2 S_is_thing (aCons (eB (vVar 0)) (aCons (eB (vC (.int 0))) aNil))))))) (sRaise "BadThing") sNext)
def T_is_entry (S_is_word S_is_shape : VSp) : VTS := (sRet (eO (vAndV (oE (oOp vEq (eB (oE (oCB vLen (aCons (bVar 0) aNil)))) (eB (vC (.int 3))))) (vAndV (oE (oCall 1 S_is_word (aCons (eB (oE (oOp vIx (bVar 0) (eB (vC (.int 0)))))) aNil))) (vAndV (oE (oCall 2 S_is_shape (aCons (eB (oE (oOp vIx (bVar 0) (eB (vC (.int 1)))))) (aCons (eB (vVar 1)) aNil)))) (oE (oOp vIn (eB (oE (oOp vIx (bVar 0) (eB (vC (.int 2)))))) (eB (oTup (aCons (eB (vC (.bl true))) (aCons (eB (vC (.bl false))) aNil)))))))))))
def K_is_table_shape_1 (S_is_entry S_is_shape : VSp) : VTS := (sRet (eO (vAndV (oE (oOp vEq (bVar 2) (eB (oE (oSS (bVar 2)))))) (vOrV (oE (oOp vIsN (eB (oE (oOp vIx (bVar 0) (eB (vC (.int 2)))))) (eB (vC .non)))) (oE (oCall 2 S_is_shape (aCons (eB (oE (oOp vIx (bVar 0) (eB (vC (.int 2)))))) (aCons (eB (oE (oOp vAdd (bVar 1) (eB (vC (.int 1)))))) aNil))))))))
def K_is_table_shape_2 (S_is_entry S_is_shape : VSp) : VTS := (sSeq (sSet 2 (eO (oE (oLc (iTs (oE (oOp vIx (bVar 0) (eB (vC (.int 1)))))) 3 tYes2 (oE (oOp vIx (bVar 3) (eB (vC (.int 0))))))))) (K_is_table_shape_1 S_is_entry S_is_shape))
def T_is_table_shape (S_is_entry S_is_shape : VSp) : VTS := (sSeq (sIf (tNot2 (tTru (eB (oE (oCB vAll (aCons (eB (oE (oLc (iTs (oE (oOp vIx (bVar 0) (eB (vC (.int 1)))))) 3 tYes2 (oE (oCall 2 S_is_entry (aCons (eB (vVar 3)) (aCons (eB (oE (oOp vAdd (bVar 1) (eB (vC (.int 1)))))) aNil))))))) aNil)))))) (sRet (eO (vC (.bl false)))) sNext) (K_is_table_shape_2 S_is_entry S_is_shape))
def K_is_shape_1 (S_is_shape S_is_table_shape : VSp) : VTS := (sRet (eO (vOrV (oE (oOp vNe (eB (oE (oOp vIx (bVar 0) (eB (vC (.int 0)))))) (eB (vC (.str "or"))))) (oE (oCB vAll (aCons (eB (oE (oLc (iTs (oE (oOp vIx (bVar 0) (eB (vC (.int 1)))))) 2 tYes2 (oE (oCall 2 S_is_shape (aCons (eB (vVar 2)) (aCons (eB (oE (oOp vAdd (bVar 1) (eB (vC (.int 1)))))) aNil))))))) aNil))))))
def K_is_shape_2 (S_is_shape S_is_table_shape : VSp) : VTS := (sSeq (sIf (tVal (oE (oOp vEq (eB (oE (oOp vIx (bVar 0) (eB (vC (.int 0)))))) (eB (vC (.str "table")))))) (sRet (eO (oE (oCall 2 S_is_table_shape (aCons (eB (vVar 0)) (aCons (eB (vVar 1)) aNil)))))) sNext) (K_is_shape_1 S_is_shape S_is_table_shape))
def K_is_shape_3 (S_is_shape S_is_table_shape : VSp) : VTS := (sSeq (sIf (tVal (oE (oOp vEq (eB (oE (oOp vIx (bVar 0) (eB (vC (.int 0)))))) (eB (vC (.str "row")))))) (sRet (eO (vAndV (oE (oChain3 vLe vLe vLe (eB (vC (.int 0))) (eB (oE (oOp vIx (bVar 0) (eB (vC (.int 2)))))) (eB (oE (oOp vIx (bVar 0) (eB (vC (.int 3)))))) (eB (vC (.int 1000000))))) (oE (oCall 2 S_is_shape (aCons (eB (oE (oOp vIx (bVar 0) (eB (vC (.int 1)))))) (aCons (eB (oE (oOp vAdd (bVar 1) (eB (vC (.int 1)))))) aNil))))))) sNext) (K_is_shape_2 S_is_shape S_is_table_shape))
def K_is_shape_4 (S_is_shape S_is_table_shape : VSp) : VTS := (sSeq (sIf (tVal (oE (oOp vEq (eB (oE (oOp vIx (bVar 0) (eB (vC (.int 0)))))) (eB (vC (.str "word")))))) (sRet (eO (oE (oChain vLe vLe (eB (vC (.int 0))) (eB (oE (oOp vIx (bVar 0) (eB (vC (.int 1)))))) (eB (vC (.int 60))))))) sNext) (K_is_shape_3 S_is_shape S_is_table_shape))
def K_is_shape_5 (S_is_shape S_is_table_shape : VSp) : VTS := (sSeq (sIf (tVal (oE (oOp vEq (eB (oE (oOp vIx (bVar 0) (eB (vC (.int 0)))))) (eB (vC (.str "number")))))) (sRet (eO (oE (oChain3 vLe vLe vLe (eB (oE (oUn vNeg (eB (vC (.int 999999999999999)))))) (eB (oE (oOp vIx (bVar 0) (eB (vC (.int 1)))))) (eB (oE (oOp vIx (bVar 0) (eB (vC (.int 2)))))) (eB (vC (.int 999999999999999))))))) sNext) (K_is_shape_4 S_is_shape S_is_table_shape))
def T_is_shape (S_is_shape S_is_table_shape : VSp) : VTS := (sSeq (sIf (tOr2 (tNot2 (tTru (bVar 0))) (tOr2 (tVal (oE (oOp vNe (eB (oE (oCB vLen (aCons (bVar 0) aNil)))) (eB (oKGet kt_SIZES (eB (oE (oOp vIx (bVar 0) (eB (vC (.int 0)))))) (vC (.int 0))))))) (tVal (oE (oOp vGt (bVar 1) (eB (vC (.int 30)))))))) (sRet (eO (vC (.bl false)))) sNext) (K_is_shape_5 S_is_shape S_is_table_shape))
def T_look_shape (S_is_shape : VSp) : VTS := (sIf (tNot2 (tTru (eB (oE (oCall 2 S_is_shape (aCons (eB (vVar 0)) (aCons (eB (vC (.int 0))) aNil))))))) (sRaise "BadThing") sNext)
def K_is_table_fit_1 (S_is_fit : VSp) : VTS := (sRet (eO (oE (oCB vAll (aCons (eB (oE (oLc (iLs (vVar 3)) 4 tYes2 (vAndV (oE (oOp vNotN (eB (oE (oOp vIx (bVar 0) (eB (vC (.int 2)))))) (eB (vC .non)))) (oE (oCall 2 S_is_fit (aCons (eB (oE (oOp vIx (bVar 0) (eB (vC (.int 2)))))) (aCons (eB (oE (oOp vIx (bVar 1) (bVar 4)))) aNil)))))))) aNil)))))
def K_is_table_fit_2 (S_is_fit : VSp) : VTS := (sSeq (sSet 3 (eO (oE (oLcV true 1 4 (tVal (oE (oOp vNotIn (bVar 4) (bVar 2)))) (vVar 4))))) (K_is_table_fit_1 S_is_fit))
def K_is_table_fit_3 (S_is_fit : VSp) : VTS := (sSeq (sForG (iTs (oE (oOp vIx (bVar 0) (eB (vC (.int 1)))))) (gT (gsC (gN 4) (gsC (gN 5) (gsC (gN 6) (gsN 0))))) (sIf (tOr2 (tAnd2 (tVal (oE (oOp vIn (bVar 4) (bVar 1)))) (tNot2 (tTru (eB (oE (oCall 2 S_is_fit (aCons (eB (vVar 5)) (aCons (eB (oE (oOp vIx (bVar 1) (bVar 4)))) aNil)))))))) (tAnd2 (tTru (bVar 6)) (tVal (oE (oOp vNotIn (bVar 4) (bVar 1)))))) (sRet (eO (vC (.bl false)))) sNext)) (K_is_table_fit_2 S_is_fit))
def T_is_table_fit (S_is_fit : VSp) : VTS := (sSeq (sSet 2 (eO (oE (oLc (iTs (oE (oOp vIx (bVar 0) (eB (vC (.int 1)))))) 7 tYes2 (oE (oOp vIx (bVar 7) (eB (vC (.int 0))))))))) (K_is_table_fit_3 S_is_fit))
def K_is_fit_1 (S_is_fit S_kind_of S_is_table_fit : VSp) : VTS := (sRet (eO (vOrV (oE (oOp vNe (bVar 2) (eB (vC (.str "table"))))) (oE (oCall 2 S_is_table_fit (aCons (eB (vVar 0)) (aCons (eB (vVar 1)) aNil)))))))
def K_is_fit_2 (S_is_fit S_kind_of S_is_table_fit : VSp) : VTS := (sSeq (sIf (tVal (oE (oOp vEq (bVar 2) (eB (vC (.str "row")))))) (sRet (eO (vAndV (oE (oChain vLe vLe (eB (oE (oOp vIx (bVar 0) (eB (vC (.int 2)))))) (eB (oE (oCB vLen (aCons (bVar 1) aNil)))) (eB (oE (oOp vIx (bVar 0) (eB (vC (.int 3)))))))) (oE (oCB vAll (aCons (eB (oE (oLc (iLs (vVar 1)) 3 tYes2 (oE (oCall 2 S_is_fit (aCons (eB (oE (oOp vIx (bVar 0) (eB (vC (.int 1)))))) (aCons (eB (vVar 3)) aNil))))))) aNil)))))) sNext) (K_is_fit_1 S_is_fit S_kind_of S_is_table_fit))
def K_is_fit_3 (S_is_fit S_kind_of S_is_table_fit : VSp) : VTS := (sSeq (sIf (tVal (oE (oOp vEq (bVar 2) (eB (vC (.str "word")))))) (sRet (eO (oE (oOp vLe (eB (oE (oCB vLen (aCons (bVar 1) aNil)))) (eB (oE (oOp vIx (bVar 0) (eB (vC (.int 1)))))))))) sNext) (K_is_fit_2 S_is_fit S_kind_of S_is_table_fit))
def K_is_fit_4 (S_is_fit S_kind_of S_is_table_fit : VSp) : VTS := (sSeq (sIf (tVal (oE (oOp vEq (bVar 2) (eB (vC (.str "number")))))) (sRet (eO (oE (oChain vLe vLe (eB (oE (oOp vIx (bVar 0) (eB (vC (.int 1)))))) (bVar 1) (eB (oE (oOp vIx (bVar 0) (eB (vC (.int 2)))))))))) sNext) (K_is_fit_3 S_is_fit S_kind_of S_is_table_fit))
def K_is_fit_5 (S_is_fit S_kind_of S_is_table_fit : VSp) : VTS := (sSeq (sIf (tVal (oE (oOp vNe (eB (oE (oCall 1 S_kind_of (aCons (eB (vVar 1)) aNil)))) (bVar 2)))) (sRet (eO (vC (.bl false)))) sNext) (K_is_fit_4 S_is_fit S_kind_of S_is_table_fit))
def K_is_fit_6 (S_is_fit S_kind_of S_is_table_fit : VSp) : VTS := (sSeq (sIf (tVal (oE (oOp vEq (bVar 2) (eB (vC (.str "or")))))) (sRet (eO (oE (oCB vAny (aCons (eB (oE (oLc (iTs (oE (oOp vIx (bVar 0) (eB (vC (.int 1)))))) 3 tYes2 (oE (oCall 2 S_is_fit (aCons (eB (vVar 3)) (aCons (eB (vVar 1)) aNil))))))) aNil))))) sNext) (K_is_fit_5 S_is_fit S_kind_of S_is_table_fit))
def K_is_fit_7 (S_is_fit S_kind_of S_is_table_fit : VSp) : VTS := (sSeq (sIf (tVal (oE (oOp vEq (bVar 2) (eB (vC (.str "any")))))) (sRet (eO (vC (.bl true)))) sNext) (K_is_fit_6 S_is_fit S_kind_of S_is_table_fit))
def T_is_fit (S_is_fit S_kind_of S_is_table_fit : VSp) : VTS := (sSeq (sSet 2 (eO (oE (oOp vIx (bVar 0) (eB (vC (.int 0))))))) (K_is_fit_7 S_is_fit S_kind_of S_is_table_fit))
def K_fits_shape_1 (S_look_shape S_look_thing S_is_fit : VSp) : VTS := (sRet (eO (oE (oCall 2 S_is_fit (aCons (eB (vVar 0)) (aCons (eB (vVar 1)) aNil))))))
def K_fits_shape_2 (S_look_shape S_look_thing S_is_fit : VSp) : VTS := (sSeq (sDrop (oE (oCall 1 S_look_thing (aCons (eB (vVar 1)) aNil)))) (K_fits_shape_1 S_look_shape S_look_thing S_is_fit))
def T_fits_shape (S_look_shape S_look_thing S_is_fit : VSp) : VTS := (sSeq (sDrop (oE (oCall 1 S_look_shape (aCons (eB (vVar 0)) aNil)))) (K_fits_shape_2 S_look_shape S_look_thing S_is_fit))
def K_shape_of_rows_1 (S_shape_of : VSp) : VTS := (sRet (eO (oTup (aCons (eB (vC (.str "row"))) (aCons (eB (oE (oCall 1 S_shape_of (aCons (eB (vVar 1)) aNil)))) (aCons (eB (oE (oCB vMin (aCons (bVar 3) aNil)))) (aCons (eB (oE (oCB vMax (aCons (bVar 3) aNil)))) aNil)))))))
def K_shape_of_rows_2 (S_shape_of : VSp) : VTS := (sSeq (sSet 3 (eO (oE (oLc (iLs (vVar 0)) 2 tYes2 (oE (oCB vLen (aCons (bVar 2) aNil))))))) (K_shape_of_rows_1 S_shape_of))
def K_shape_of_rows_3 (S_shape_of : VSp) : VTS := (sSeq (sFor (iLs (vVar 0)) 2 (sDrop (oMut 1 "list" fExt (aCons (eB (vVar 2)) aNil)))) (K_shape_of_rows_2 S_shape_of))
def T_shape_of_rows (S_shape_of : VSp) : VTS := (sSeq (sSet 1 (oLst aNil)) (K_shape_of_rows_3 S_shape_of))
def K_shape_of_tables_1 (S_shape_of : VSp) : VTS := (sDrop (oMut 3 "list" fApp (aCons (eB (oTup (aCons (eB (vVar 4)) (aCons (eB (oE (oCall 1 S_shape_of (aCons (eB (vVar 5)) aNil)))) (aCons (eB (oE (oOp vEq (eB (oE (oCB vLen (aCons (bVar 5) aNil)))) (eB (oE (oCB vLen (aCons (bVar 0) aNil))))))) aNil))))) aNil)))
def K_shape_of_tables_2 (S_shape_of : VSp) : VTS := (sRet (eO (oTup (aCons (eB (vC (.str "table"))) (aCons (eB (oE (oCB vTupleOf (aCons (bVar 3) aNil)))) (aCons (eB (vC .non)) aNil))))))
def K_shape_of_tables_3 (S_shape_of : VSp) : VTS := (sSeq (sFor (iLs (oE (oSS (bVar 1)))) 4 (sSeq (sSet 5 (eO (oE (oLc (iLs (vVar 0)) 2 (tVal (oE (oOp vIn (bVar 4) (bVar 2)))) (oE (oOp vIx (bVar 2) (bVar 4))))))) (K_shape_of_tables_1 S_shape_of))) (K_shape_of_tables_2 S_shape_of))
def K_shape_of_tables_4 (S_shape_of : VSp) : VTS := (sSeq (sSet 3 (oLst aNil)) (K_shape_of_tables_3 S_shape_of))
def K_shape_of_tables_5 (S_shape_of : VSp) : VTS := (sSeq (sFor (iLs (vVar 0)) 2 (sDrop (oMut 1 "list" fExt (aCons (eB (oE (oVw true (fun kvs => some (vwD true kvs)) (bVar 2)))) aNil)))) (K_shape_of_tables_4 S_shape_of))
def T_shape_of_tables (S_shape_of : VSp) : VTS := (sSeq (sSet 1 (oLst aNil)) (K_shape_of_tables_5 S_shape_of))
def K_shape_of_kind_1 (S_shape_of_rows S_shape_of_tables : VSp) : VTS := (sRet (eO (oE (oIf (tVal (oE (oOp vEq (bVar 0) (eB (vC (.str "table")))))) (oCall 1 S_shape_of_tables (aCons (eB (vVar 1)) aNil)) (eO (oTup (aCons (eB (vVar 0)) aNil)))))))
def K_shape_of_kind_2 (S_shape_of_rows S_shape_of_tables : VSp) : VTS := (sSeq (sIf (tVal (oE (oOp vEq (bVar 0) (eB (vC (.str "row")))))) (sRet (eO (oE (oCall 1 S_shape_of_rows (aCons (eB (vVar 1)) aNil))))) sNext) (K_shape_of_kind_1 S_shape_of_rows S_shape_of_tables))
def K_shape_of_kind_3 (S_shape_of_rows S_shape_of_tables : VSp) : VTS := (sSeq (sIf (tVal (oE (oOp vEq (bVar 0) (eB (vC (.str "word")))))) (sRet (eO (oTup (aCons (eB (vC (.str "word"))) (aCons (eB (oE (oCB vMax (aCons (eB (oE (oLc (iLs (vVar 1)) 2 tYes2 (oE (oCB vLen (aCons (bVar 2) aNil)))))) aNil)))) aNil))))) sNext) (K_shape_of_kind_2 S_shape_of_rows S_shape_of_tables))
def T_shape_of_kind (S_shape_of_rows S_shape_of_tables : VSp) : VTS := (sSeq (sIf (tVal (oE (oOp vEq (bVar 0) (eB (vC (.str "number")))))) (sRet (eO (oTup (aCons (eB (vC (.str "number"))) (aCons (eB (oE (oCB vMin (aCons (bVar 1) aNil)))) (aCons (eB (oE (oCB vMax (aCons (bVar 1) aNil)))) aNil)))))) sNext) (K_shape_of_kind_3 S_shape_of_rows S_shape_of_tables))
def K_shape_of_1 (S_kind_of S_shape_of_kind : VSp) : VTS := (sIf (tTru (bVar 3)) (sDrop (oMut 1 "list" fApp (aCons (eB (oE (oCall 2 S_shape_of_kind (aCons (eB (vVar 2)) (aCons (eB (vVar 3)) aNil))))) aNil))) sNext)
def K_shape_of_2 (S_kind_of S_shape_of_kind : VSp) : VTS := (sRet (eO (oE (oIf (tVal (oE (oOp vEq (eB (oE (oCB vLen (aCons (bVar 1) aNil)))) (eB (vC (.int 1)))))) (oOp vIx (bVar 1) (eB (vC (.int 0)))) (eO (oTup (aCons (eB (vC (.str "or"))) (aCons (eB (oE (oCB vTupleOf (aCons (bVar 1) aNil)))) aNil))))))))
def K_shape_of_3 (S_kind_of S_shape_of_kind : VSp) : VTS := (sSeq (sFor (iLs (vC (.fzl (kl_KINDS.map .str)))) 2 (sSeq (sSet 3 (eO (oE (oLc (iLs (vVar 0)) 4 (tVal (oE (oOp vEq (eB (oE (oCall 1 S_kind_of (aCons (eB (vVar 4)) aNil)))) (bVar 2)))) (vVar 4))))) (K_shape_of_1 S_kind_of S_shape_of_kind))) (K_shape_of_2 S_kind_of S_shape_of_kind))
def T_shape_of (S_kind_of S_shape_of_kind : VSp) : VTS := (sSeq (sSet 1 (oLst aNil)) (K_shape_of_3 S_kind_of S_shape_of_kind))
def K_least_shape_1 (S_look_thing S_shape_of : VSp) : VTS := (sRet (eO (oE (oCall 1 S_shape_of (aCons (eB (vVar 0)) aNil)))))
def T_least_shape (S_look_thing S_shape_of : VSp) : VTS := (sSeq (sFor (iLs (vVar 0)) 1 (sDrop (oE (oCall 1 S_look_thing (aCons (eB (vVar 1)) aNil))))) (K_least_shape_1 S_look_thing S_shape_of))
def K__law_cell_1 : VTS := (sRet (eO (vC (.int 0))))
def T__law_cell : VTS := (sSeq (sIf (tTru (bVar 0)) (sRet (eO (oE (oOp vIx (bVar 0) (eB (oE (oOp vMod (bVar 1) (eB (oE (oCB vLen (aCons (bVar 0) aNil))))))))))) sNext) (K__law_cell_1))
def K__law_mix_1 (S__law_cell : VSp) : VTS := (sRet (eO (oE (oOp vMod (eB (oE (oOp vAdd (eB (oE (oOp vMul (eB (oE (oOp vDiv (bVar 2) (eB (vC (.int 64)))))) (eB (vC (.int 69621)))))) (bVar 2)))) (eB (vC (.int 4294967231)))))))
def K__law_mix_2 (S__law_cell : VSp) : VTS := (sSeq (sSet 2 (eO (oE (oOp vMod (eB (oE (oOp vMul (bVar 2) (eB (vC (.int 48271)))))) (eB (vC (.int 4294967279))))))) (K__law_mix_1 S__law_cell))
def T__law_mix (S__law_cell : VSp) : VTS := (sSeq (sSet 2 (eO (oE (oOp vMod (eB (oE (oOp vAdd (eB (oE (oCall 2 S__law_cell (aCons (eB (vVar 0)) (aCons (eB (vVar 1)) aNil))))) (eB (oE (oOp vMul (eB (vC (.int 104729))) (eB (oE (oOp vAdd (bVar 1) (eB (vC (.int 1)))))))))))) (eB (vC (.int 4294967291))))))) (K__law_mix_2 S__law_cell))
def K__law_draw_1 (S__law_mix : VSp) : VTS := (sRet (eO (oE (oOp vMod (eB (oE (oOp vDiv (eB (oE (oCall 2 S__law_mix (aCons (eB (vVar 0)) (aCons (eB (oE (oCB vLen (aCons (bVar 1) aNil)))) aNil))))) (eB (vC (.int 8)))))) (bVar 2)))))
def T__law_draw (S__law_mix : VSp) : VTS := (sSeq (sDrop (oMut 1 "list" fApp (aCons (eB (vC (.int 0))) aNil))) (K__law_draw_1 S__law_mix))
def T__law_pick (S__law_draw : VSp) : VTS := (sRet (eO (oE (oOp vIx (bVar 2) (eB (oE (oCall 3 S__law_draw (aCons (eB (vVar 0)) (aCons (bVar 1) (aCons (eB (oE (oCB vLen (aCons (bVar 2) aNil)))) aNil))))))))))
def K__law_refusal_1 : VTS := (sRet (eO (oTup (aCons (eB (vC (.str "refused"))) (aCons (eB (oE (oOp vIx (eB (oE (oLst (aCons (eB (vC (.str "thing"))) (aCons (eB (vC (.str "text"))) (aCons (eB (vC (.str "way"))) (aCons (eB (vC (.str "nothing there"))) (aCons (eB (vC (.str "go"))) (aCons (eB (vC (.str "nothing"))) aNil))))))))) (eB (oE (oMt "list" fIdx (bVar 1) (aCons (eB (vC (.bl true))) aNil))))))) aNil)))))
def K__law_refusal_2 : VTS := (sSeq (sIf (tOr2 (tVal (oE (oOp vNe (eB (oE (oMt "list" fCnt (bVar 1) (aCons (eB (vC (.bl true))) aNil)))) (eB (vC (.int 1)))))) (tNot2 (tTru (eB (oIsi (isEx (tab i_ValueError)) (bVar 0)))))) (sRet (eO (oTup (aCons (eB (vC (.str "wrong"))) aNil)))) sNext) (K__law_refusal_1))
def K__law_refusal_3 : VTS := (sSeq (sSet 1 (eO (oE (oOp vAdd (bVar 1) (eB (oE (oLst (aCons (eB (oIsi (isEx (tab i_NoWay)) (bVar 0))) (aCons (eB (oIsi (isEx (tab i_NoGo)) (bVar 0))) (aCons (eB (oIsi (isEx (tab i_Nothing)) (bVar 0))) aNil)))))))))) (K__law_refusal_2))
def K__law_refusal_4 : VTS := (sSeq (sSet 1 (eO (oE (oLst (aCons (eB (oIsi (isEx (tab i_BadThing)) (bVar 0))) (aCons (eB (oIsi (isEx (tab i_BadText)) (bVar 0))) (aCons (eB (oIsi (isEx (tab i_BadWay)) (bVar 0))) aNil))))))) (K__law_refusal_3))
def T__law_refusal : VTS := (sSeq (sIf (tVal (oE (oOp vIsN (bVar 0) (eB (vC .non))))) (sRet (eO (oTup (aCons (eB (vC (.str "ok"))) aNil)))) sNext) (K__law_refusal_4))
def K__law_kind_1 : VTS := (sRet (eO (oE (oIf (tTru (eB (oIsi (isBf .list) (bVar 0)))) (eO (vC (.int 4))) (oIf (tTru (eB (oIsi (isBf .dict) (bVar 0)))) (eO (vC (.int 5))) (eO (vC (.int 6))))))))
def K__law_kind_2 : VTS := (sSeq (sIf (tTru (eB (oIsi (isBf .str) (bVar 0)))) (sRet (eO (vC (.int 3)))) sNext) (K__law_kind_1))
def K__law_kind_3 : VTS := (sSeq (sIf (tTru (eB (oIsi (isBf .int) (bVar 0)))) (sRet (eO (vC (.int 2)))) sNext) (K__law_kind_2))
def T__law_kind : VTS := (sSeq (sIf (tOr2 (tVal (oE (oOp vIsN (bVar 0) (eB (vC .non))))) (tTru (eB (oIsi (isBf .bool) (bVar 0))))) (sRet (eO (oE (oIf (tVal (oE (oOp vIsN (bVar 0) (eB (vC .non))))) (eO (vC (.int 0))) (eO (vC (.int 1))))))) sNext) (K__law_kind_3))
def K__law_few_1 (S__law_draw S__law_pick S__law_few : VSp) : VTS := (sRet (eO (oE (oCall 3 S__law_pick (aCons (eB (vVar 0)) (aCons (bVar 1) (aCons (eB (vVar 6)) aNil)))))))
def K__law_few_2 (S__law_draw S__law_pick S__law_few : VSp) : VTS := (sRet (eO (vVar 4)))
def K__law_few_3 (S__law_draw S__law_pick S__law_few : VSp) : VTS := (sSeq (sFor (iLs (oE (oLst (aCons (eB (vC (.str "a"))) (aCons (eB (vC (.str "b"))) (aCons (eB (vC (.str "c"))) aNil)))))) 5 (sIf (tVal (oE (oOp vGt (eB (oE (oCall 3 S__law_draw (aCons (eB (vVar 0)) (aCons (bVar 1) (aCons (eB (vC (.int 3))) aNil)))))) (eB (vC (.int 0)))))) (sSto 4 (oE (oCall 3 S__law_few (aCons (eB (vVar 0)) (aCons (bVar 1) (aCons (eB (oE (oOp vSub (bVar 2) (eB (vC (.int 1)))))) aNil))))) (bVar 5)) sNext)) (K__law_few_2 S__law_draw S__law_pick S__law_few))
def K__law_few_4 (S__law_draw S__law_pick S__law_few : VSp) : VTS := (sSeq (sSet 4 oDct0) (K__law_few_3 S__law_draw S__law_pick S__law_few))
def K__law_few_5 (S__law_draw S__law_pick S__law_few : VSp) : VTS := (sSeq (sIf (tVal (oE (oOp vLt (bVar 3) (eB (vC (.int 6)))))) (sRet (eO (oE (oLc (iRg (aCons (eB (oE (oCall 3 S__law_draw (aCons (eB (vVar 0)) (aCons (bVar 1) (aCons (eB (vC (.int 4))) aNil)))))) aNil)) 7 tYes2 (oE (oCall 3 S__law_few (aCons (eB (vVar 0)) (aCons (bVar 1) (aCons (eB (oE (oOp vSub (bVar 2) (eB (vC (.int 1)))))) aNil))))))))) sNext) (K__law_few_4 S__law_draw S__law_pick S__law_few))
def K__law_few_6 (S__law_draw S__law_pick S__law_few : VSp) : VTS := (sSeq (sIf (tVal (oE (oOp vLt (bVar 3) (eB (vC (.int 4)))))) (sSeq (sSet 6 (eO (oE (oLst (aCons (eB (vC .non)) (aCons (eB (vC (.bl true))) (aCons (eB (vC (.bl false))) (aCons (eB (vC (.int 0))) (aCons (eB (vC (.int 1))) (aCons (eB (oE (oUn vNeg (eB (vC (.int 7)))))) (aCons (eB (oE (oCall 3 S__law_draw (aCons (eB (vVar 0)) (aCons (bVar 1) (aCons (eB (vC (.int 100))) aNil)))))) (aCons (eB (vC (.str ""))) (aCons (eB (vC (.str "a"))) (aCons (eB (vC (.str "abc"))) aNil)))))))))))))) (K__law_few_1 S__law_draw S__law_pick S__law_few)) sNext) (K__law_few_5 S__law_draw S__law_pick S__law_few))
def T__law_few (S__law_draw S__law_pick S__law_few : VSp) : VTS := (sSeq (sSet 3 (eO (oE (oIf (tVal (oE (oOp vGt (bVar 2) (eB (vC (.int 0)))))) (oCall 3 S__law_draw (aCons (eB (vVar 0)) (aCons (bVar 1) (aCons (eB (vC (.int 9))) aNil)))) (oCall 3 S__law_draw (aCons (eB (vVar 0)) (aCons (bVar 1) (aCons (eB (vC (.int 4))) aNil)))))))) (K__law_few_6 S__law_draw S__law_pick S__law_few))
def K__law_fits_1 (S__law_fits S__law_kind : VSp) : VTS := (sIf (tAnd2 (tTru (bVar 6)) (tVal (oE (oOp vNotIn (bVar 4) (bVar 1))))) (sRet (eO (vC (.bl false)))) sNext)
def K__law_fits_2 (S__law_fits S__law_kind : VSp) : VTS := (sRet (eO (vC (.bl true))))
def K__law_fits_3 (S__law_fits S__law_kind : VSp) : VTS := (sSeq (sForK 1 4 (sIf (tOr2 (tAnd2 (tVal (oE (oOp vNotIn (bVar 4) (bVar 3)))) (tVal (oE (oOp vIsN (eB (oE (oOp vIx (bVar 0) (eB (vC (.int 2)))))) (eB (vC .non)))))) (tNot2 (tTru (eB (oE (oCall 2 S__law_fits (aCons (eB (oDGet2 (bVar 3) (bVar 4) (oE (oOp vIx (bVar 0) (eB (vC (.int 2))))))) (aCons (eB (oE (oOp vIx (bVar 1) (bVar 4)))) aNil)))))))) (sRet (eO (vC (.bl false)))) sNext)) (K__law_fits_2 S__law_fits S__law_kind))
def K__law_fits_4 (S__law_fits S__law_kind : VSp) : VTS := (sSeq (sForG (iTs (oE (oOp vIx (bVar 0) (eB (vC (.int 1)))))) (gT (gsC (gN 4) (gsC (gN 5) (gsC (gN 6) (gsN 0))))) (sSeq (sSto 3 (vVar 5) (bVar 4)) (K__law_fits_1 S__law_fits S__law_kind))) (K__law_fits_3 S__law_fits S__law_kind))
def K__law_fits_5 (S__law_fits S__law_kind : VSp) : VTS := (sSeq (sSet 3 oDct0) (K__law_fits_4 S__law_fits S__law_kind))
def K__law_fits_6 (S__law_fits S__law_kind : VSp) : VTS := (sSeq (sIf (tVal (oE (oOp vNe (bVar 2) (eB (vC (.str "table")))))) (sRet (eO (vC (.bl true)))) sNext) (K__law_fits_5 S__law_fits S__law_kind))
def K__law_fits_7 (S__law_fits S__law_kind : VSp) : VTS := (sSeq (sIf (tVal (oE (oOp vEq (bVar 2) (eB (vC (.str "row")))))) (sRet (eO (vAndV (oE (oChain vLe vLe (eB (oE (oOp vIx (bVar 0) (eB (vC (.int 2)))))) (eB (oE (oCB vLen (aCons (bVar 1) aNil)))) (eB (oE (oOp vIx (bVar 0) (eB (vC (.int 3)))))))) (oE (oCB vAll (aCons (eB (oE (oLc (iLs (vVar 1)) 7 tYes2 (oE (oCall 2 S__law_fits (aCons (eB (oE (oOp vIx (bVar 0) (eB (vC (.int 1)))))) (aCons (eB (vVar 7)) aNil))))))) aNil)))))) sNext) (K__law_fits_6 S__law_fits S__law_kind))
def K__law_fits_8 (S__law_fits S__law_kind : VSp) : VTS := (sSeq (sIf (tVal (oE (oOp vEq (bVar 2) (eB (vC (.str "word")))))) (sRet (eO (oE (oOp vLe (eB (oE (oCB vLen (aCons (bVar 1) aNil)))) (eB (oE (oOp vIx (bVar 0) (eB (vC (.int 1)))))))))) sNext) (K__law_fits_7 S__law_fits S__law_kind))
def K__law_fits_9 (S__law_fits S__law_kind : VSp) : VTS := (sSeq (sIf (tVal (oE (oOp vEq (bVar 2) (eB (vC (.str "number")))))) (sRet (eO (oE (oChain vLe vLe (eB (oE (oOp vIx (bVar 0) (eB (vC (.int 1)))))) (bVar 1) (eB (oE (oOp vIx (bVar 0) (eB (vC (.int 2)))))))))) sNext) (K__law_fits_8 S__law_fits S__law_kind))
def K__law_fits_10 (S__law_fits S__law_kind : VSp) : VTS := (sSeq (sIf (tVal (oE (oOp vNe (eB (oE (oOp vIx (eB (oE (oLst (aCons (eB (vC (.str "none"))) (aCons (eB (vC (.str "truth"))) (aCons (eB (vC (.str "number"))) (aCons (eB (vC (.str "word"))) (aCons (eB (vC (.str "row"))) (aCons (eB (vC (.str "table"))) aNil))))))))) (eB (oE (oCall 1 S__law_kind (aCons (eB (vVar 1)) aNil))))))) (bVar 2)))) (sRet (eO (vC (.bl false)))) sNext) (K__law_fits_9 S__law_fits S__law_kind))
def K__law_fits_11 (S__law_fits S__law_kind : VSp) : VTS := (sSeq (sIf (tVal (oE (oOp vEq (bVar 2) (eB (vC (.str "any")))))) (sRet (eO (vC (.bl true)))) sNext) (K__law_fits_10 S__law_fits S__law_kind))
def K__law_fits_12 (S__law_fits S__law_kind : VSp) : VTS := (sSeq (sIf (tVal (oE (oOp vEq (bVar 2) (eB (vC (.str "or")))))) (sRet (eO (oE (oCB vAny (aCons (eB (oE (oLc (iTs (oE (oOp vIx (bVar 0) (eB (vC (.int 1)))))) 7 tYes2 (oE (oCall 2 S__law_fits (aCons (eB (vVar 7)) (aCons (eB (vVar 1)) aNil))))))) aNil))))) sNext) (K__law_fits_11 S__law_fits S__law_kind))
def T__law_fits (S__law_fits S__law_kind : VSp) : VTS := (sSeq (sSet 2 (eO (oE (oOp vIx (bVar 0) (eB (vC (.int 0))))))) (K__law_fits_12 S__law_fits S__law_kind))
def K__law_least_1 (S__law_kind S__law_least S__law_entries : VSp) : VTS := (sDrop (oMut 1 "list" fApp (aCons (eB (oTup (aCons (eB (vC (.str "row"))) (aCons (eB (oE (oCall 1 S__law_least (aCons (eB (vVar 5)) aNil)))) (aCons (eB (oE (oCB vMin (aCons (bVar 7) aNil)))) (aCons (eB (oE (oCB vMax (aCons (bVar 7) aNil)))) aNil)))))) aNil)))
def K__law_least_2 (S__law_kind S__law_least S__law_entries : VSp) : VTS := (sSeq (sSet 7 (eO (oE (oLc (iLs (vVar 3)) 6 tYes2 (oE (oCB vLen (aCons (bVar 6) aNil))))))) (K__law_least_1 S__law_kind S__law_least S__law_entries))
def K__law_least_3 (S__law_kind S__law_least S__law_entries : VSp) : VTS := (sSeq (sFor (iLs (vVar 3)) 6 (sSet 5 (eO (oE (oOp vAdd (bVar 5) (bVar 6)))))) (K__law_least_2 S__law_kind S__law_least S__law_entries))
def K__law_least_4 (S__law_kind S__law_least S__law_entries : VSp) : VTS := (sIf (tVal (oE (oOp vLt (bVar 2) (eB (vC (.int 2)))))) (sDrop (oMut 1 "list" fApp (aCons (eB (oTup (aCons (eB (oE (oOp vIx (eB (oE (oLst (aCons (eB (vC (.str "none"))) (aCons (eB (vC (.str "truth"))) aNil))))) (bVar 2)))) aNil))) aNil))) (sIf (tVal (oE (oOp vEq (bVar 2) (eB (vC (.int 2)))))) (sDrop (oMut 1 "list" fApp (aCons (eB (oTup (aCons (eB (vC (.str "number"))) (aCons (eB (oE (oCB vMin (aCons (bVar 3) aNil)))) (aCons (eB (oE (oCB vMax (aCons (bVar 3) aNil)))) aNil))))) aNil))) (sIf (tVal (oE (oOp vEq (bVar 2) (eB (vC (.int 3)))))) (sDrop (oMut 1 "list" fApp (aCons (eB (oTup (aCons (eB (vC (.str "word"))) (aCons (eB (oE (oCB vMax (aCons (eB (oE (oLc (iLs (vVar 3)) 8 tYes2 (oE (oCB vLen (aCons (bVar 8) aNil)))))) aNil)))) aNil)))) aNil))) (sIf (tVal (oE (oOp vEq (bVar 2) (eB (vC (.int 4)))))) (sSeq (sSet 5 (eO (oE (oLst aNil)))) (K__law_least_3 S__law_kind S__law_least S__law_entries)) (sDrop (oMut 1 "list" fApp (aCons (eB (oTup (aCons (eB (vC (.str "table"))) (aCons (eB (oE (oCall 1 S__law_entries (aCons (eB (vVar 3)) aNil)))) (aCons (eB (vC .non)) aNil))))) aNil)))))))
def K__law_least_5 (S__law_kind S__law_least S__law_entries : VSp) : VTS := (sSeq (sIf (tVal (oE (oOp vEq (bVar 3) (eB (oE (oLst aNil)))))) sCnt sNext) (K__law_least_4 S__law_kind S__law_least S__law_entries))
def K__law_least_6 (S__law_kind S__law_least S__law_entries : VSp) : VTS := (sRet (eO (oE (oIf (tVal (oE (oOp vEq (eB (oE (oCB vLen (aCons (bVar 1) aNil)))) (eB (vC (.int 1)))))) (oOp vIx (bVar 1) (eB (vC (.int 0)))) (eO (oTup (aCons (eB (vC (.str "or"))) (aCons (eB (oE (oCB vTupleOf (aCons (bVar 1) aNil)))) aNil))))))))
def K__law_least_7 (S__law_kind S__law_least S__law_entries : VSp) : VTS := (sSeq (sFor (iRg (aCons (eB (vC (.int 6))) aNil)) 2 (sSeq (sSet 3 (eO (oE (oLc (iLs (vVar 0)) 4 (tVal (oE (oOp vEq (eB (oE (oCall 1 S__law_kind (aCons (eB (vVar 4)) aNil)))) (bVar 2)))) (vVar 4))))) (K__law_least_5 S__law_kind S__law_least S__law_entries))) (K__law_least_6 S__law_kind S__law_least S__law_entries))
def T__law_least (S__law_kind S__law_least S__law_entries : VSp) : VTS := (sSeq (sSet 1 (oLst aNil)) (K__law_least_7 S__law_kind S__law_least S__law_entries))
def K__law_entries_1 (S__law_least : VSp) : VTS := (sRet (eO (oE (oCB vTupleOf (aCons (eB (oE (oLc (iLs (oE (oVw true (fun kvs => srt (vwD true kvs)) (bVar 1)))) 3 tYes2 (oTup (aCons (eB (vVar 3)) (aCons (eB (oE (oCall 1 S__law_least (aCons (eB (oE (oOp vIx (bVar 1) (bVar 3)))) aNil)))) (aCons (eB (oE (oOp vEq (eB (oE (oCB vLen (aCons (eB (oE (oOp vIx (bVar 1) (bVar 3)))) aNil)))) (eB (oE (oCB vLen (aCons (bVar 0) aNil))))))) aNil))))))) aNil)))))
def K__law_entries_2 (S__law_least : VSp) : VTS := (sSeq (sFor (iLs (vVar 0)) 2 (sForK 2 3 (sSto 1 (oE (oOp vAdd (eB (oDGet2 (bVar 1) (bVar 3) (oE (oLst aNil)))) (eB (oE (oLst (aCons (eB (oE (oOp vIx (bVar 2) (bVar 3)))) aNil)))))) (bVar 3)))) (K__law_entries_1 S__law_least))
def T__law_entries (S__law_least : VSp) : VTS := (sSeq (sSet 1 oDct0) (K__law_entries_2 S__law_least))
def K__law_told_1 (S_least_shape S__law_refusal : VSp) : VTS := (sRet (eO (oE (oIf (tVal (oE (oOp vIsN (bVar 1) (eB (vC .non))))) (eO (vVar 2)) (oCall 1 S__law_refusal (aCons (eB (vVar 1)) aNil))))))
def K__law_told_2 (S_least_shape S__law_refusal : VSp) : VTS := (sSeq (sTryAs (tab m_NestError) 3 (sSet 2 (eO (oE (oCall 1 S_least_shape (aCons (eB (vVar 0)) aNil))))) (sSet 1 (eO (vVar 3)))) (K__law_told_1 S_least_shape S__law_refusal))
def K__law_told_3 (S_least_shape S__law_refusal : VSp) : VTS := (sSeq (sSet 2 (eO (vC .non))) (K__law_told_2 S_least_shape S__law_refusal))
def T__law_told (S_least_shape S__law_refusal : VSp) : VTS := (sSeq (sSet 1 (eO (vC .non))) (K__law_told_3 S_least_shape S__law_refusal))
def K_law_1 (S__law_draw S__law_few S__law_least S__law_told S_fits_shape S__law_fits : VSp) : VTS := (sRet (eO (oE (oOp vEq (eB (oE (oCall 1 S__law_told (aCons (eB (oE (oOp vAdd (bVar 2) (eB (oE (oLst (aCons (eB (oE (oLst (aCons (eB (oE (oOp vMulS (eB (vC (.str "x"))) (eB (vC (.int 61)))))) aNil)))) aNil))))))) aNil)))) (eB (oTup (aCons (eB (vC (.str "refused"))) (aCons (eB (vC (.str "thing"))) aNil))))))))
def K_law_2 (S__law_draw S__law_few S__law_least S__law_told S_fits_shape S__law_fits : VSp) : VTS := (sSeq (sIf (tAnd2 (tVal (oE (oOp vEq (eB (oE (oCall 1 S__law_told (aCons (eB (oE (oOp vAdd (bVar 2) (eB (oE (oLst (aCons (eB (vVar 5)) aNil))))))) aNil)))) (bVar 3)))) (tNot2 (tTru (eB (oE (oCall 2 S_fits_shape (aCons (eB (vVar 4)) (aCons (eB (vVar 5)) aNil)))))))) (sRet (eO (vC (.bl false)))) sNext) (K_law_1 S__law_draw S__law_few S__law_least S__law_told S_fits_shape S__law_fits))
def K_law_3 (S__law_draw S__law_few S__law_least S__law_told S_fits_shape S__law_fits : VSp) : VTS := (sSeq (sIf (tOr2 (tVal (oE (oOp vNe (eB (oE (oCall 2 S_fits_shape (aCons (eB (vVar 4)) (aCons (eB (vVar 5)) aNil))))) (eB (oE (oCall 2 S__law_fits (aCons (eB (vVar 3)) (aCons (eB (vVar 5)) aNil)))))))) (tVal (oE (oOp vNe (eB (oE (oCall 1 S__law_told (aCons (eB (oE (oOp vAdd (bVar 2) (eB (oE (oLst (aCons (eB (vVar 5)) aNil))))))) aNil)))) (eB (oE (oCall 1 S__law_least (aCons (eB (oE (oOp vAdd (bVar 2) (eB (oE (oLst (aCons (eB (vVar 5)) aNil))))))) aNil)))))))) (sRet (eO (vC (.bl false)))) sNext) (K_law_2 S__law_draw S__law_few S__law_least S__law_told S_fits_shape S__law_fits))
def K_law_4 (S__law_draw S__law_few S__law_least S__law_told S_fits_shape S__law_fits : VSp) : VTS := (sSeq (sSet 5 (eO (oE (oCall 3 S__law_few (aCons (eB (vVar 0)) (aCons (bVar 1) (aCons (eB (vC (.int 3))) aNil))))))) (K_law_3 S__law_draw S__law_few S__law_least S__law_told S_fits_shape S__law_fits))
def K_law_5 (S__law_draw S__law_few S__law_least S__law_told S_fits_shape S__law_fits : VSp) : VTS := (sSeq (sIf (tOr2 (tVal (oE (oOp vNe (eB (oE (oCall 1 S__law_told (aCons (eB (oE (oRev (bVar 2)))) aNil)))) (bVar 3)))) (tVal (oE (oOp vNe (eB (oE (oCall 1 S__law_told (aCons (eB (oE (oOp vAdd (bVar 2) (bVar 2)))) aNil)))) (bVar 3))))) (sRet (eO (vC (.bl false)))) sNext) (K_law_4 S__law_draw S__law_few S__law_least S__law_told S_fits_shape S__law_fits))
def K_law_6 (S__law_draw S__law_few S__law_least S__law_told S_fits_shape S__law_fits : VSp) : VTS := (sSeq (sIf (tOr2 (tVal (oE (oOp vNe (bVar 4) (bVar 3)))) (tNot2 (tTru (eB (oE (oCB vAll (aCons (eB (oE (oLc (iLs (vVar 2)) 7 tYes2 (oE (oCall 2 S_fits_shape (aCons (eB (vVar 4)) (aCons (eB (vVar 7)) aNil))))))) aNil))))))) (sRet (eO (vC (.bl false)))) sNext) (K_law_5 S__law_draw S__law_few S__law_least S__law_told S_fits_shape S__law_fits))
def K_law_7 (S__law_draw S__law_few S__law_least S__law_told S_fits_shape S__law_fits : VSp) : VTS := (sSeq (sSet 4 (eO (oE (oCall 1 S__law_told (aCons (eB (vVar 2)) aNil))))) (K_law_6 S__law_draw S__law_few S__law_least S__law_told S_fits_shape S__law_fits))
def K_law_8 (S__law_draw S__law_few S__law_least S__law_told S_fits_shape S__law_fits : VSp) : VTS := (sSeq (sSet 3 (eO (oE (oCall 1 S__law_least (aCons (eB (vVar 2)) aNil))))) (K_law_7 S__law_draw S__law_few S__law_least S__law_told S_fits_shape S__law_fits))
def K_law_9 (S__law_draw S__law_few S__law_least S__law_told S_fits_shape S__law_fits : VSp) : VTS := (sSeq (sSet 2 (eO (oE (oLc (iRg (aCons (eB (oE (oCall 3 S__law_draw (aCons (eB (vVar 0)) (aCons (bVar 1) (aCons (eB (vC (.int 7))) aNil)))))) aNil)) 6 tYes2 (oE (oCall 3 S__law_few (aCons (eB (vVar 0)) (aCons (bVar 1) (aCons (eB (vC (.int 3))) aNil))))))))) (K_law_8 S__law_draw S__law_few S__law_least S__law_told S_fits_shape S__law_fits))
def T_law (S__law_draw S__law_few S__law_least S__law_told S_fits_shape S__law_fits : VSp) : VTS := (sSeq (sSet 1 (oLst aNil)) (K_law_9 S__law_draw S__law_few S__law_least S__law_told S_fits_shape S__law_fits))
end VL
set_option linter.all false
set_option maxRecDepth 100000
set_option maxHeartbeats 4000000
namespace VL
open PySem PySem.Spec PyProof.Rows L2
/-! ## plain Lean: things as data -/
def keyS : Key → Str
  | .inr z => z
  | .inl _ => ""
def strKey : Key → Bool
  | .inr z => decide (z.length ≤ 16777216)
  | .inl _ => false
def keysOf (kvs : List (Key × D)) : List Str := kvs.map fun p => keyS p.1
/-- data of at most n rows and tables within one another, of sizes that fit -/
def dat : Nat → D → Bool
  | _, .non => true
  | _, .bl _ => true
  | _, .int _ => true
  | _, .str z => decide (z.length ≤ 16777216)
  | n + 1, .lst ds => decide (ds.length ≤ 16777216) && ds.all (dat n)
  | n + 1, .dct kvs => decide (kvs.length ≤ 16777215) && ((kvs.all fun p => strKey p.1 && dat n p.2) && decide (kvs.map (·.1)).Nodup)
  | _, _ => false
def kindD : D → Str
  | .non => "none" | .bl _ => "truth" | .int _ => "number" | .str _ => "word" | .lst _ => "row" | .fzl _ => "row" | _ => "table"
def sgn (c : Nat) : Bool := decide (32 ≤ c) && (decide (c < 127) && !(c == 37))
def isWord (z : Str) : Bool := decide (z.length ≤ 60) && z.cps.toList.all sgn
def inner : D → List D
  | .lst ds => ds
  | .dct kvs => (sortS (keysOf kvs)).map fun z => (valD kvs (.inr z)).getD .non
  | _ => []
/-- whether it is a thing, r more rows and tables within -/
def isTh : Nat → D → Bool
  | _, .int i => decide ((if i < 0 then -i else i) ≤ 999999999999999)
  | _, .str z => isWord z
  | r + 1, .lst ds => ds.all (isTh r)
  | r + 1, .dct kvs => (keysOf kvs).all isWord && (inner (.dct kvs)).all (isTh r)
  | 0, .lst _ => false
  | 0, .dct _ => false
  | _, _ => true
def sm : Nat → D → D → Bool
  | n + 1, .lst xs, .lst ys => decide (xs.length = ys.length) && (List.range xs.length).all fun k => sm n (xs.getD k .non) (ys.getD k .non)
  | n + 1, .dct xs, .dct ys => decide (sortS (keysOf xs) = sortS (keysOf ys)) && (keysOf xs).all fun z => sm n ((valD xs (.inr z)).getD .non) ((valD ys (.inr z)).getD .non)
  | _, .non, .non => true
  | _, .bl a, .bl b => a == b
  | _, .int a, .int b => a == b
  | _, .str a, .str b => a == b
  | _, _, _ => false
def wt : Nat → D → Int
  | 0, _ => 1
  | n + 1, d => 1 + ((inner d).map (wt n)).sum
def values : D → List D
  | .lst ds => ds
  | .dct kvs => kvs.map (·.2)
  | _ => []
def lwt : Nat → D → Int
  | 0, _ => 1
  | n + 1, d => 1 + ((values d).map (lwt n)).sum
def nst : Nat → D → D
  | 0, x => x
  | k + 1, x => if k % 2 = 0 then .lst [nst k x] else .dct [(.inr "a", nst k x)]
def twn (n : Nat) : D := .lst (List.replicate n (.int 0))
@[simp] theorem twn_mut {n : Nat} : isMut (twn n) = true := rfl
@[simp] theorem twn_ins {n : Nat} : isIns (twn n) = false := rfl
@[simp] theorem twn_ty {n : Nat} : tyD (twn n) = "list" := rfl
@[simp] theorem twn_len {n : Nat} : vLen [twn n] = some (.sh (.int n)) := by simp [twn]
@[simp] theorem twn_app {n : Nat} (h : n ≤ 1000000) : fApp (twn n) [.int 0] = some (.non, twn (n + 1)) := by
  simp only [fApp, twn, List.length_replicate]
  rw [if_pos (by simp; omega)]
  rw [List.replicate_succ']
/-! ## lemmas -/
section
variable {n m r : Nat} {d : D} {kvs : List (Key × D)}
theorem valD_none (h : ∀ p ∈ kvs, p.1 ≠ k) : valD kvs k = none := by
  unfold valD
  rw [List.find?_eq_none.mpr]; rfl
  intro p hp; simpa using h p hp
theorem valD_mem {k : Key} (h : valD kvs k = some d) : (k, d) ∈ kvs := by
  unfold valD at h
  obtain ⟨p, hp, rfl⟩ := Option.map_eq_some_iff.mp h
  have h1 := List.mem_of_find?_eq_some hp
  have h2 := List.find?_some hp
  simp only [decide_eq_true_eq] at h2
  subst h2; exact h1
theorem valD_of (h : (k, d) ∈ kvs) (nd : (kvs.map (·.1)).Nodup) : valD kvs k = some d := by
  induction kvs with
  | nil => cases h
  | cons p r ih =>
    simp only [List.map_cons, List.nodup_cons] at nd
    rcases List.mem_cons.mp h with e | e
    · subst e; simp [valD]
    · have : p.1 ≠ k := fun z => nd.1 (List.mem_map.mpr ⟨_, e, z.symm⟩)
      have e2 : valD (p :: r) k = valD r k := by simp [valD, this]
      rw [e2]; exact ih e nd.2
theorem dat_lst {ds : List D} : dat (n + 1) (.lst ds) = true ↔ ds.length ≤ 16777216 ∧ ∀ x ∈ ds, dat n x = true := by simp [dat]
theorem dat_dct : dat (n + 1) (.dct kvs) = true ↔ kvs.length ≤ 16777215 ∧ (∀ p ∈ kvs, strKey p.1 = true ∧ dat n p.2 = true) ∧ (kvs.map (·.1)).Nodup := by
  simp only [dat, Bool.and_eq_true, decide_eq_true_eq, List.all_eq_true]
theorem dat_basic (h : dat n d = true) : basic d = true := by cases d <;> simp [basic] <;> cases n <;> simp [dat] at h
theorem dat_ins (h : dat n d = true) : isIns d = false := by cases d <;> simp [isIns] <;> cases n <;> simp [dat] at h
theorem dat_mono : ∀ {n : Nat} {d : D}, dat n d = true → dat (n + 1) d = true := by
  intro n
  induction n with
  | zero => intro d h; cases d <;> simp [dat] at h ⊢ <;> exact h
  | succ n ih =>
    intro d h
    cases d with
    | lst ds => rw [dat_lst] at h ⊢; exact ⟨h.1, fun x hx => ih (h.2 x hx)⟩
    | dct kvs => rw [dat_dct] at h ⊢; exact ⟨h.1, fun p hp => ⟨(h.2.1 p hp).1, ih (h.2.1 p hp).2⟩, h.2.2⟩
    | _ => simp [dat] at h ⊢ <;> exact h
theorem dat_le (h : dat n d = true) (hn : n ≤ m) : dat m d = true := by
  induction hn with
  | refl => exact h
  | step _ ih => exact dat_mono ih
theorem strKey_inr {k : Key} (h : strKey k = true) : k = .inr (keyS k) := by
  cases k with
  | inl i => cases h
  | inr z => rfl
theorem mem_keys {z : Str} (hk : ∀ p ∈ kvs, strKey p.1 = true) (h : z ∈ keysOf kvs) : ∃ d, (Sum.inr z, d) ∈ kvs := by
  obtain ⟨p, hp, rfl⟩ := List.mem_map.mp h
  obtain ⟨k, d⟩ := p
  have := strKey_inr (hk _ hp)
  exact ⟨d, by rw [← this]; exact hp⟩
theorem val_there {z : Str} (hk : ∀ p ∈ kvs, strKey p.1 = true) (nd : (kvs.map (·.1)).Nodup) (h : z ∈ keysOf kvs) : ∃ d, valD kvs (.inr z) = some d ∧ (Sum.inr z, d) ∈ kvs := by
  obtain ⟨d, hd⟩ := mem_keys hk h
  exact ⟨d, valD_of hd nd, hd⟩
theorem mem_sort {l : List Str} {z : Str} : z ∈ sortS l ↔ z ∈ l := (sortS_perm l).mem_iff
theorem dat_inner (h : dat (n + 1) d = true) : ∀ x ∈ inner d, dat n x = true := by
  cases d with
  | lst ds => exact (dat_lst.mp h).2
  | dct kvs =>
    obtain ⟨_, h1, h2⟩ := dat_dct.mp h
    intro x hx
    obtain ⟨z, hz, rfl⟩ := List.mem_map.mp hx
    obtain ⟨d, e, hd⟩ := val_there (fun p hp => (h1 p hp).1) h2 (mem_sort.mp hz)
    rw [e]; exact (h1 _ hd).2
  | _ => intro x hx; cases hx
theorem inner_len : (inner d).length ≤ (values d).length := by
  cases d <;> simp [inner, values, keysOf, sortS]
theorem isTh_mono : ∀ {r : Nat} {d : D}, isTh r d = true → isTh (r + 1) d = true := by
  intro r
  induction r with
  | zero =>
    intro d h
    cases d with
    | lst ds => simp [isTh] at h
    | dct kvs => simp [isTh] at h
    | _ => exact h
  | succ r ih =>
    intro d h
    cases d with
    | lst ds => simp only [isTh, List.all_eq_true] at h ⊢; exact fun x hx => ih (h x hx)
    | dct kvs => simp only [isTh, Bool.and_eq_true, List.all_eq_true] at h ⊢; exact ⟨h.1, fun x hx => ih (h.2 x hx)⟩
    | _ => exact h
theorem isTh_le (h : isTh n d = true) (hn : n ≤ m) : isTh m d = true := by
  induction hn with
  | refl => exact h
  | step _ ih => exact isTh_mono ih
/-- the same as itself -/
theorem sm_refl : ∀ {n : Nat} {d : D}, dat n d = true → sm n d d = true := by
  intro n
  induction n with
  | zero => intro d h; cases d <;> simp [dat] at h <;> simp [sm]
  | succ n ih =>
    intro d h
    cases d with
    | lst ds =>
      simp only [sm, Bool.and_eq_true, decide_eq_true_eq, true_and, List.all_eq_true, List.mem_range]
      intro k hk
      have := (dat_lst.mp h).2
      rw [List.getD_eq_getElem?_getD, List.getElem?_eq_getElem hk]
      exact ih (this _ (List.getElem_mem hk))
    | dct kvs =>
      obtain ⟨_, h1, h2⟩ := dat_dct.mp h
      simp only [sm, Bool.and_eq_true, decide_eq_true_eq, true_and, List.all_eq_true]
      intro z hz
      obtain ⟨d, e, hd⟩ := val_there (fun p hp => (h1 p hp).1) h2 hz
      rw [e]; exact ih (h1 _ hd).2
    | _ => simp [dat] at h <;> simp [sm]
theorem sort_mem {a b : List Str} (h : sortS a = sortS b) (z : Str) : z ∈ a ↔ z ∈ b := by
  rw [← mem_sort (l := a), h, mem_sort]
theorem beqc {α : Type} [BEq α] [LawfulBEq α] (x y : α) : (x == y) = (y == x) := by
  rw [Bool.eq_iff_iff, beq_iff_eq, beq_iff_eq]; exact eq_comm
theorem sm_symm : ∀ {n : Nat} {a b : D}, sm n a b = sm n b a := by
  intro n
  induction n with
  | zero =>
    intro a b
    cases a <;> cases b <;> first | rfl | exact beqc _ _
  | succ n ih =>
    intro a b
    cases a <;> cases b <;> first | rfl | exact beqc _ _ | simp only [sm]
    · rename_i xs ys
      by_cases e : xs.length = ys.length
      · rw [decide_eq_true e, decide_eq_true e.symm, e]
        simp only [ih]
      · rw [decide_eq_false e, decide_eq_false (fun z => e z.symm)]; rfl
    · rename_i xs ys
      by_cases e : sortS (keysOf xs) = sortS (keysOf ys)
      · rw [decide_eq_true e, decide_eq_true e.symm, Bool.true_and, Bool.true_and]
        refine Bool.eq_iff_iff.mpr ?_
        simp only [List.all_eq_true]
        exact ⟨fun h z hz => by rw [ih]; exact h z ((sort_mem e z).mpr hz), fun h z hz => by rw [ih]; exact h z ((sort_mem e z).mp hz)⟩
      · rw [decide_eq_false e, decide_eq_false (fun z => e z.symm)]; rfl
theorem sum_perm {a b : List Int} (h : a.Perm b) : a.sum = b.sum := by
  induction h with
  | nil => rfl
  | cons x _ ih => simp [ih]
  | swap x y l => simp; omega
  | trans _ _ h1 h2 => exact h1.trans h2
theorem inner_perm (h : dat (n + 1) d = true) : (inner d).Perm (values d) := by
  cases d with
  | lst ds => exact List.Perm.refl _
  | dct kvs =>
    obtain ⟨_, h1, h2⟩ := dat_dct.mp h
    have e : values (.dct kvs) = (keysOf kvs).map fun z => (valD kvs (.inr z)).getD .non := by
      simp only [values, keysOf, List.map_map]
      refine List.map_congr_left fun p hp => ?_
      obtain ⟨k, d⟩ := p
      have := strKey_inr (h1 _ hp).1
      simp only [Function.comp]
      rw [← this, valD_of hp h2]; rfl
    rw [e]
    exact (sortS_perm _).map _
  | _ => exact List.Perm.refl _
theorem wt_eq : ∀ {n : Nat} {d : D}, dat n d = true → wt n d = lwt n d := by
  intro n
  induction n with
  | zero => intro d h; rfl
  | succ n ih =>
    intro d h
    simp only [wt, lwt]
    have p := inner_perm h
    rw [sum_perm (p.map (wt n))]
    congr 2
    refine List.map_congr_left fun x hx => ih (dat_inner h x (p.mem_iff.mpr hx))
theorem isTh_nst : ∀ {k : Nat} {r : Nat} {x : D}, isTh r (nst k x) = (decide (k ≤ r) && isTh (r - k) x) := by
  intro k
  induction k with
  | zero => intro r x; simp [nst]
  | succ k ih =>
    intro r x
    have ha : isWord "a" = true := by decide +kernel
    simp only [nst]
    split
    · cases r with
      | zero => simp [isTh]
      | succ r => simp only [isTh, List.all_cons, List.all_nil, Bool.and_true, ih]; simp
    · cases r with
      | zero => simp [isTh]
      | succ r =>
        have e : sortS (keysOf [(.inr "a", nst k x)]) = [("a" : Str)] := by simp [keysOf, keyS, sortS]
        simp only [isTh, inner, e, List.map_cons, List.map_nil, List.all_cons, List.all_nil, Bool.and_true]
        have e2 : valD [(Sum.inr ("a" : Str), nst k x)] (.inr "a") = some (nst k x) := by simp [valD]
        rw [e2]
        simp only [keysOf, keyS, List.map_cons, List.map_nil, List.all_cons, List.all_nil, ha, Option.getD_some, ih, Bool.true_and]
        simp
theorem dat_nst : ∀ {k : Nat} {x : D}, dat n x = true → dat (n + k) (nst k x) = true := by
  intro k
  induction k with
  | zero => intro x h; exact h
  | succ k ih =>
    intro x h
    have := ih h
    simp only [nst]
    split
    · exact dat_lst.mpr ⟨by simp, by simpa using this⟩
    · exact dat_dct.mpr ⟨by simp, by simpa [strKey] using ⟨by decide +kernel, this⟩, by simp⟩
end
end VL
set_option linter.all false
set_option maxRecDepth 100000
set_option maxHeartbeats 4000000
namespace VL
open PySem PySem.Spec PyProof.Rows L2
abbrev Pure (S : VSp) (n N : Nat) (T : VTS) : Prop := ∀ args QV EV, args.length = n → args.all argOk = true → S args QV EV → T (bodyEnds args QV EV) (padE N args)
/-- [g for f in l]: nothing else is changed -/
theorem bLc_map {α : Type} {ds : List D} {i : Nat} {te : VTE} {env : En} {s0 : Sv} {Q : Sv → En → Prop} {E : XQ} (l : List α) (f g : α → D) (hds : ds = l.map f) (hl : l.length ≤ 16777216) (h0 : env[i]? = some s0)
    (hstep : ∀ x ∈ l, ∀ Q : D → En → Prop, Q (g x) (env.set i (.sh (f x))) → te (env.set i (.sh (f x))) Q (fun _ _ _ => False)) (hq : Q (.ow (.lst (l.map g))) (env.set i (keepS s0))) : bLc ds i tYes2 te env Q E := by
  subst hds
  refine ⟨by simpa using hl, s0, h0, fun n acc e => e = env.set i (keepS s0) ∧ acc = (l.take n).map g, ⟨rfl, rfl⟩, ?_, ?_⟩
  · rintro n d acc e hd ⟨rfl, rfl⟩ he
    rw [List.getElem?_map, Option.map_eq_some_iff] at hd
    obtain ⟨x, hx, rfl⟩ := hd
    rw [List.set_set]
    show te _ _ _
    refine hstep x (List.mem_of_getElem? hx) _ ⟨by rw [List.set_set], ?_⟩
    rw [List.take_add_one, hx]; simp
  · rintro acc e ⟨rfl, rfl⟩ he
    simpa using hq
theorem asBls_mapf {α : Type} (l : List α) (p : α → Bool) : asBls (l.map fun x => .bl (p x)) = some (l.map p) := by
  induction l with
  | nil => rfl
  | cons x l ih => simp [asBls, ih]
theorem all_bls {α : Type} (l : List α) (p : α → Bool) : vAll [.lst (l.map fun x => .bl (p x))] = some (.sh (.bl (l.all p))) := by
  simp only [vAll, dls_lst, Option.bind_some, asBls_mapf, Option.map_some]
  rw [List.all_map]; rfl
theorem asInts_mapf {α : Type} (l : List α) (p : α → Int) : asInts (l.map fun x => .int (p x)) = some (l.map p) := by
  induction l with
  | nil => rfl
  | cons x l ih => simp [asInts, ih]
theorem sum_ints {α : Type} (l : List α) (p : α → Int) : vSum [.lst (l.map fun x => .int (p x))] = some (.sh (.int (l.map p).sum)) := by
  simp [vSum, asInts_mapf]
@[simp] theorem kn_none_truth : ((("none" : Str) = "truth") = False) := eq_false (by decide +kernel)
@[simp] theorem kn_none_number : ((("none" : Str) = "number") = False) := eq_false (by decide +kernel)
@[simp] theorem kn_none_word : ((("none" : Str) = "word") = False) := eq_false (by decide +kernel)
@[simp] theorem kn_none_row : ((("none" : Str) = "row") = False) := eq_false (by decide +kernel)
@[simp] theorem kn_none_table : ((("none" : Str) = "table") = False) := eq_false (by decide +kernel)
@[simp] theorem kn_truth_none : ((("truth" : Str) = "none") = False) := eq_false (by decide +kernel)
@[simp] theorem kn_truth_number : ((("truth" : Str) = "number") = False) := eq_false (by decide +kernel)
@[simp] theorem kn_truth_word : ((("truth" : Str) = "word") = False) := eq_false (by decide +kernel)
@[simp] theorem kn_truth_row : ((("truth" : Str) = "row") = False) := eq_false (by decide +kernel)
@[simp] theorem kn_truth_table : ((("truth" : Str) = "table") = False) := eq_false (by decide +kernel)
@[simp] theorem kn_number_none : ((("number" : Str) = "none") = False) := eq_false (by decide +kernel)
@[simp] theorem kn_number_truth : ((("number" : Str) = "truth") = False) := eq_false (by decide +kernel)
@[simp] theorem kn_number_word : ((("number" : Str) = "word") = False) := eq_false (by decide +kernel)
@[simp] theorem kn_number_row : ((("number" : Str) = "row") = False) := eq_false (by decide +kernel)
@[simp] theorem kn_number_table : ((("number" : Str) = "table") = False) := eq_false (by decide +kernel)
@[simp] theorem kn_word_none : ((("word" : Str) = "none") = False) := eq_false (by decide +kernel)
@[simp] theorem kn_word_truth : ((("word" : Str) = "truth") = False) := eq_false (by decide +kernel)
@[simp] theorem kn_word_number : ((("word" : Str) = "number") = False) := eq_false (by decide +kernel)
@[simp] theorem kn_word_row : ((("word" : Str) = "row") = False) := eq_false (by decide +kernel)
@[simp] theorem kn_word_table : ((("word" : Str) = "table") = False) := eq_false (by decide +kernel)
@[simp] theorem kn_row_none : ((("row" : Str) = "none") = False) := eq_false (by decide +kernel)
@[simp] theorem kn_row_truth : ((("row" : Str) = "truth") = False) := eq_false (by decide +kernel)
@[simp] theorem kn_row_number : ((("row" : Str) = "number") = False) := eq_false (by decide +kernel)
@[simp] theorem kn_row_word : ((("row" : Str) = "word") = False) := eq_false (by decide +kernel)
@[simp] theorem kn_row_table : ((("row" : Str) = "table") = False) := eq_false (by decide +kernel)
@[simp] theorem kn_table_none : ((("table" : Str) = "none") = False) := eq_false (by decide +kernel)
@[simp] theorem kn_table_truth : ((("table" : Str) = "truth") = False) := eq_false (by decide +kernel)
@[simp] theorem kn_table_number : ((("table" : Str) = "number") = False) := eq_false (by decide +kernel)
@[simp] theorem kn_table_word : ((("table" : Str) = "word") = False) := eq_false (by decide +kernel)
@[simp] theorem kn_table_row : ((("table" : Str) = "row") = False) := eq_false (by decide +kernel)
@[simp] theorem kd_non : kindD .non = "none" := rfl
@[simp] theorem kd_bl {b : Bool} : kindD (.bl b) = "truth" := rfl
@[simp] theorem kd_int {i : Int} : kindD (.int i) = "number" := rfl
@[simp] theorem kd_str {z : Str} : kindD (.str z) = "word" := rfl
@[simp] theorem kd_lst {ds : List D} : kindD (.lst ds) = "row" := rfl
@[simp] theorem kd_dct {kvs : List (Key × D)} : kindD (.dct kvs) = "table" := rfl
@[simp] theorem ba_non : basic .non = true := rfl
@[simp] theorem ba_bl {b : Bool} : basic (.bl b) = true := rfl
@[simp] theorem ba_int {i : Int} : basic (.int i) = true := rfl
@[simp] theorem ba_str {z : Str} : basic (.str z) = true := rfl
@[simp] theorem ba_lst {ds : List D} : basic (.lst ds) = true := rfl
@[simp] theorem ba_dct {kvs : List (Key × D)} : basic (.dct kvs) = true := rfl
/-- data are of these kinds -/
theorem dat_cases {n : Nat} {d : D} (h : dat n d = true) : d = .non ∨ (∃ b, d = .bl b) ∨ (∃ i, d = .int i) ∨ (∃ z, d = .str z ∧ z.length ≤ 16777216) ∨ (∃ m ds, n = m + 1 ∧ d = .lst ds ∧ ds.length ≤ 16777216 ∧ ∀ x ∈ ds, dat m x = true) ∨
    ∃ m kvs, n = m + 1 ∧ d = .dct kvs ∧ kvs.length ≤ 16777215 ∧ (∀ p ∈ kvs, strKey p.1 = true ∧ dat m p.2 = true) ∧ (kvs.map (·.1)).Nodup := by
  cases d with
  | non => exact .inl rfl
  | bl b => exact .inr (.inl ⟨b, rfl⟩)
  | int i => exact .inr (.inr (.inl ⟨i, rfl⟩))
  | str z => exact .inr (.inr (.inr (.inl ⟨z, rfl, by cases n <;> simpa [dat] using h⟩)))
  | lst ds =>
    cases n with
    | zero => simp [dat] at h
    | succ m => exact .inr (.inr (.inr (.inr (.inl ⟨m, ds, rfl, rfl, dat_lst.mp h⟩))))
  | dct kvs =>
    cases n with
    | zero => simp [dat] at h
    | succ m => exact .inr (.inr (.inr (.inr (.inr ⟨m, kvs, rfl, rfl, dat_dct.mp h⟩))))
  | _ => cases n <;> simp [dat] at h
section
variable {kvs : List (Key × D)} {m : Nat}
theorem keys_fit (h : ∀ p ∈ kvs, strKey p.1 = true ∧ dat m p.2 = true) : keysFit kvs = true := by
  simp only [keysFit, List.all_eq_true]
  intro p hp
  have := (h p hp).1
  obtain ⟨k, d⟩ := p
  cases k with
  | inl i => rfl
  | inr z => simpa [strKey] using this
theorem vwD_keys (h : ∀ p ∈ kvs, strKey p.1 = true ∧ dat m p.2 = true) : vwD true kvs = (keysOf kvs).map .str := by
  simp only [vwD, if_true, keysOf, List.map_map]
  refine List.map_congr_left fun p hp => ?_
  have := strKey_inr (h p hp).1
  simp only [Function.comp]
  rw [this]; rfl
theorem vwD_vals : vwD false kvs = kvs.map (·.2) := by simp [vwD]
theorem srt_keys (h : ∀ p ∈ kvs, strKey p.1 = true ∧ dat m p.2 = true) : srt (vwD true kvs) = some ((sortS (keysOf kvs)).map .str) := by
  rw [vwD_keys h]; simp [srt, asStrs_map]
theorem keys_len : (keysOf kvs).length = kvs.length := by simp [keysOf]
theorem sort_len {l : List Str} : (sortS l).length = l.length := (sortS_perm l).length_eq
theorem ix_key (h : ∀ p ∈ kvs, strKey p.1 = true ∧ dat m p.2 = true) (nd : (kvs.map (·.1)).Nodup) {z : Str} (hz : z ∈ keysOf kvs) : ∃ d, valD kvs (.inr z) = some d ∧ dat m d = true := by
  obtain ⟨d, e, hd⟩ := val_there (fun p hp => (h p hp).1) nd hz
  exact ⟨d, e, (h _ hd).2⟩
end
/-! ## the promises of the package's defs -/
def S_kind_of : VSp := fun args Q _ => ∃ d, args = [.sh d] ∧ basic d = true ∧ Q (.sh (.str (kindD d))) []
def S_is_sign : VSp := fun args Q _ => ∃ c : Nat, args = [.sh (.str ⟨#[c]⟩)] ∧ Q (.sh (.bl (sgn c))) []
def S_is_word : VSp := fun args Q _ => ∃ z : Str, args = [.sh (.str z)] ∧ z.length ≤ 16777216 ∧ Q (.sh (.bl (isWord z))) []
def S_inner_things : VSp := fun args Q _ => ∃ n d, args = [.sh d] ∧ dat n d = true ∧ Q (.sh (.lst (inner d))) []
def S_is_thing (k : Nat) : VSp := fun args Q _ => ∃ (n : Nat) (d : D) (r : Nat) (i : Int), args = [.sh d, .sh (.int i)] ∧ i + r = 12 ∧ r < k ∧ dat n d = true ∧ Q (.sh (.bl (isTh r d))) []
def S_look_thing : VSp := fun args Q E => ∃ n d, args = [.sh d] ∧ dat n d = true ∧ (isTh 12 d = true → Q (.sh .non) []) ∧ (isTh 12 d = false → E "BadThing" [] [])
def S_is_same (k : Nat) : VSp := fun args Q _ => ∃ n a b, args = [.sh a, .sh b] ∧ dat n a = true ∧ dat n b = true ∧ n < k ∧ Q (.sh (.bl (sm n a b))) []
def S_same : VSp := fun args Q E => ∃ a b, args = [.sh a, .sh b] ∧ dat 20 a = true ∧ dat 20 b = true ∧ ((isTh 12 a && isTh 12 b) = true → Q (.sh (.bl (sm 20 a b))) []) ∧ ((isTh 12 a && isTh 12 b) = false → E "BadThing" [] [])
def S_weight (k : Nat) : VSp := fun args Q _ => ∃ n d, args = [.sh d] ∧ dat n d = true ∧ n < k ∧ Q (.sh (.int (wt n d))) []
theorem atI_nat {α : Type} {xs : List α} {k : Nat} : L2.atI xs (k : Int) = xs[k]? := by
  unfold L2.atI L2.ixN
  rw [if_pos (by omega)]
  by_cases h : k < xs.length
  · rw [if_pos (by omega)]; simp
  · rw [if_neg (by omega)]; simp; omega
theorem deps0 {l : List Str} : deps (l.map .str) = 0 := by
  induction l with
  | nil => simp [deps]
  | cons x l ih => simp [deps, dep, ih]
theorem pls0 {l : List Str} : pls (l.map .str) = true := by
  induction l with
  | nil => simp [pls]
  | cons x l ih => simp [pls, pl, ih]
theorem deqs0 : ∀ {l m : List Str}, deqs (l.map .str) (m.map .str) = decide (l = m)
  | [], [] => by simp [deqs]
  | [], _ :: _ => by simp [deqs]
  | _ :: _, [] => by simp [deqs]
  | x :: l, y :: m => by
    simp only [List.map_cons, deqs, deq, deqs0 (l := l) (m := m), List.cons.injEq]
    by_cases h : x = y <;> simp [h]
theorem ne_strs {l m : List Str} : vNe (.lst (l.map .str)) (.lst (m.map .str)) = some (.sh (.bl (!decide (l = m)))) := by
  have : eqOk (.lst (l.map .str)) (.lst (m.map .str)) = true := by simp [eqOk, pl, pls0, dep, deps0]
  simp only [vNe, eqx, this, if_true, Option.map_some, deq, deqs0]
/-- two of one kind, no rows, no tables -/
theorem eq_leaf {n : Nat} {a b : D} (ha : dat n a = true) (hb : dat n b = true) (hk : kindD a = kindD b) (h1 : ¬ kindD a = "row") (h2 : ¬ kindD a = "table") : vEq a b = some (.sh (.bl (sm n a b))) := by
  rcases dat_cases ha with rfl | ⟨x, rfl⟩ | ⟨x, rfl⟩ | ⟨x, rfl, _⟩ | ⟨m, ds, rfl, rfl, hl, hx⟩ | ⟨m, kvs, rfl, rfl, hl, hx, nd⟩ <;> simp at h1 h2 <;>
  rcases dat_cases hb with rfl | ⟨y, rfl⟩ | ⟨y, rfl⟩ | ⟨y, rfl, _⟩ | ⟨m', ds', e, rfl, _, _⟩ | ⟨m', kvs', e, rfl, _, _, _⟩ <;> simp at hk
  · cases n <;> rfl
  · rw [eq_bl]; cases n <;> rfl
  · rw [eq_int]; cases n <;> rfl
  · rw [eq_str]; cases n <;> rfl
theorem kind_row {n : Nat} {a : D} (ha : dat n a = true) (h : kindD a = "row") : ∃ m ds, n = m + 1 ∧ a = .lst ds ∧ ds.length ≤ 16777216 ∧ ∀ x ∈ ds, dat m x = true := by
  rcases dat_cases ha with rfl | ⟨x, rfl⟩ | ⟨x, rfl⟩ | ⟨x, rfl, _⟩ | ⟨m, ds, rfl, rfl, hl, hx⟩ | ⟨m, kvs, rfl, rfl, hl, hx, nd⟩ <;> simp at h
  exact ⟨m, ds, rfl, rfl, hl, hx⟩
theorem kind_table {n : Nat} {a : D} (ha : dat n a = true) (h : kindD a = "table") : ∃ m kvs, n = m + 1 ∧ a = .dct kvs ∧ kvs.length ≤ 16777215 ∧ (∀ p ∈ kvs, strKey p.1 = true ∧ dat m p.2 = true) ∧ (kvs.map (·.1)).Nodup := by
  rcases dat_cases ha with rfl | ⟨x, rfl⟩ | ⟨x, rfl⟩ | ⟨x, rfl, _⟩ | ⟨m, ds, rfl, rfl, hl, hx⟩ | ⟨m, kvs, rfl, rfl, hl, hx, nd⟩ <;> simp at h
  exact ⟨m, kvs, rfl, rfl, hl, hx, nd⟩
theorem sm_kind {n : Nat} {a b : D} (ha : dat n a = true) (hb : dat n b = true) (h : ¬ kindD a = kindD b) : sm n a b = false := by
  rcases dat_cases ha with rfl | ⟨x, rfl⟩ | ⟨x, rfl⟩ | ⟨x, rfl, _⟩ | ⟨m, ds, rfl, rfl, _, _⟩ | ⟨m, kvs, rfl, rfl, _, _, _⟩ <;>
  rcases dat_cases hb with rfl | ⟨y, rfl⟩ | ⟨y, rfl⟩ | ⟨y, rfl, _⟩ | ⟨m', ds', e, rfl, _, _⟩ | ⟨m', kvs', e, rfl, _, _, _⟩ <;>
  first | exact absurd rfl h | rfl | (cases n <;> rfl)
/-! ## the package's defs -/
theorem pure_kind_of : Pure S_kind_of 1 1 T_kind_of := by
  rintro args QV EV _ _ ⟨d, rfl, hb, hq⟩
  cases d <;> simp [basic] at hb <;> simp [T_kind_of, K_kind_of_1, K_kind_of_2, K_kind_of_3, K_kind_of_4, padE] <;> exact hq
theorem pure_is_sign : Pure S_is_sign 1 1 T_is_sign := by
  rintro args QV EV _ _ ⟨c, rfl, hq⟩
  have h1 : vOrd [.str ⟨#[c]⟩] = some (.sh (.int c)) := by simp [vOrd, Str.length]
  simp [T_is_sign, padE, h1]
  have e2 : (((c : Int) == 37) : Bool) = (c == 37) := by rw [Bool.eq_iff_iff]; simp; omega
  by_cases a : 32 ≤ c
  · by_cases b : c < 127
    · have : sgn c = !(c == 37) := by simp [sgn, a, b]
      rw [this] at hq
      rw [if_pos (by omega), if_pos (by omega), e2]; exact hq
    · have : sgn c = false := by simp [sgn, b]
      rw [this] at hq
      rw [if_pos (by omega), if_neg (by omega)]; exact hq
  · have : sgn c = false := by simp [sgn, a]
    rw [this] at hq
    rw [if_neg (by omega)]; exact hq
theorem pure_is_word : Pure S_is_word 1 2 (T_is_word S_is_sign) := by
  rintro args QV EV _ _ ⟨z, rfl, hz, hq⟩
  simp [T_is_word, padE]
  by_cases a : z.length ≤ 60
  · rw [if_pos (by omega)]
    refine bLc_map (s0 := .un) z.cps.toList (fun c => .str ⟨#[c]⟩) (fun c => .bl (sgn c)) rfl hz rfl (fun c hc Q hQ => ?_) ?_
    · simp
      exact clI ⟨c, rfl, by simpa using hQ⟩
    · have : isWord z = z.cps.toList.all sgn := by simp [isWord, a]
      rw [this] at hq; simpa [all_bls] using hq
  · have : isWord z = false := by simp [isWord, a]
    rw [this] at hq
    rw [if_neg (by omega)]; exact hq
theorem pure_inner_things : Pure S_inner_things 1 2 (T_inner_things S_kind_of) := by
  rintro args QV EV _ _ ⟨n, d, rfl, hd, hq⟩
  simp [T_inner_things, padE]
  refine clI ⟨d, rfl, dat_basic hd, ?_⟩
  rcases dat_cases hd with rfl | ⟨b, rfl⟩ | ⟨i, rfl⟩ | ⟨z, rfl, hz⟩ | ⟨m, ds, rfl, rfl, hl, hx⟩ | ⟨m, kvs, rfl, rfl, hl, hx, nd⟩ <;> simp [K_inner_things_1]
  · exact clI ⟨_, rfl, rfl, by simp; exact hq⟩
  · exact clI ⟨_, rfl, rfl, by simp; exact hq⟩
  · exact clI ⟨_, rfl, rfl, by simp; exact hq⟩
  · exact clI ⟨_, rfl, rfl, by simp; exact hq⟩
  · exact hq
  · refine clI ⟨_, rfl, rfl, ?_⟩
    simp [keys_fit hx, srt_keys hx]
    refine bLc_map (s0 := .un) (sortS (keysOf kvs)) (fun z => .str z) (fun z => (valD kvs (.inr z)).getD .non) rfl (by rw [sort_len, keys_len]; omega) rfl (fun z hz Q hQ => ?_) ?_
    · obtain ⟨d, e, hd⟩ := ix_key hx nd (mem_sort.mp hz)
      simp [e, dat_ins hd]
      simpa [e] using hQ
    · simp; exact hq
theorem pure_is_thing {k : Nat} : Pure (S_is_thing (k + 1)) 2 5 (T_is_thing S_kind_of S_is_word S_inner_things (S_is_thing k)) := by
  rintro args QV EV _ _ ⟨n, d, r, i, rfl, hr, hk, hd, hq⟩
  simp [T_is_thing, padE]
  refine clI ⟨d, rfl, dat_basic hd, ?_⟩
  rcases dat_cases hd with rfl | ⟨b, rfl⟩ | ⟨j, rfl⟩ | ⟨z, rfl, hz⟩ | ⟨m, ds, rfl, rfl, hl, hx⟩ | ⟨m, kvs, rfl, rfl, hl, hx, nd⟩ <;> simp [K_is_thing_5, K_is_thing_4, K_is_thing_3, K_is_thing_2]
  · cases r <;> exact hq
  · cases r <;> exact hq
  · cases r <;> exact hq
  · refine clI ⟨z, rfl, hz, ?_⟩
    simp
    cases r <;> exact hq
  · cases r with
    | zero => rw [if_pos (by omega)]; exact hq
    | succ r =>
      rw [if_neg (by omega)]
      simp [K_is_thing_1]
      refine clI ⟨_, _, rfl, hd, ?_⟩
      simp
      refine bLc_map (s0 := .un) ds id (fun x => .bl (isTh r x)) (by simp [inner]) hl rfl (fun x hx' Q hQ => ?_) ?_
      · simp
        exact clI ⟨m, x, r, i + 1, rfl, by omega, by omega, hx x hx', by simpa using hQ⟩
      · simp [all_bls]; exact hq
  · cases r with
    | zero => rw [if_pos (by omega)]; exact hq
    | succ r =>
      rw [if_neg (by omega)]
      simp [keys_fit hx]
      refine bLc_map (s0 := .un) (keysOf kvs) (fun z => .str z) (fun z => .bl (isWord z)) (vwD_keys hx) (by rw [keys_len]; omega) rfl (fun z hz Q hQ => ?_) ?_
      · simp
        refine clI ⟨z, rfl, ?_, by simpa using hQ⟩
        obtain ⟨p, hp, rfl⟩ := List.mem_map.mp hz
        have h1 := (hx p hp).1
        have h2 := strKey_inr h1
        rw [h2] at h1; simpa [strKey] using h1
      · simp [all_bls]
        by_cases hw : ∀ z ∈ keysOf kvs, isWord z = true
        · rw [if_pos hw]
          simp [K_is_thing_1]
          refine clI ⟨_, _, rfl, hd, ?_⟩
          simp
          have hin := dat_inner hd
          refine bLc_map (s0 := .un) (inner (.dct kvs)) id (fun x => .bl (isTh r x)) (by simp) (Nat.le_trans inner_len (by simp [values]; omega)) rfl (fun x hx' Q hQ => ?_) ?_
          · simp
            exact clI ⟨m, x, r, i + 1, rfl, by omega, by omega, hin x hx', by simpa using hQ⟩
          · have : isTh (r + 1) (.dct kvs) = (inner (.dct kvs)).all (isTh r) := by
              have h : (keysOf kvs).all isWord = true := List.all_eq_true.mpr hw
              simp only [isTh, h, Bool.true_and]
            rw [this] at hq
            simp [all_bls]; exact hq
        · have h : (keysOf kvs).all isWord = false := by
            rw [Bool.eq_false_iff]; intro z; exact hw (List.all_eq_true.mp z)
          have : isTh (r + 1) (.dct kvs) = false := by simp only [isTh, h, Bool.false_and]
          rw [this] at hq
          rw [if_neg hw]; exact hq
theorem pure_look_thing : Pure S_look_thing 1 1 (T_look_thing (S_is_thing 13)) := by
  rintro args QV EV _ _ ⟨n, d, rfl, hd, h1, h2⟩
  simp [T_look_thing, padE]
  refine clI ⟨n, d, 12, 0, rfl, by omega, by omega, hd, ?_⟩
  simp
  cases e : isTh 12 d with
  | true => simpa [e] using h1 e
  | false => simpa [e] using h2 e
end VL
set_option linter.all false
set_option maxRecDepth 100000
set_option maxHeartbeats 4000000
namespace VL
open PySem PySem.Spec PyProof.Rows L2
/-! ## the law's draws -/
abbrev scr (ns : List Int) : Sv := .sh (.fzl (ns.map .int))
def S__law_cell : VSp := fun args Q _ => ∃ (ns : List Int) (k : Int), args = [scr ns, .sh (.int k)] ∧ 0 ≤ k ∧ ∀ i : Int, Q (.sh (.int i)) []
def S__law_mix : VSp := fun args Q _ => ∃ (ns : List Int) (k : Int), args = [scr ns, .sh (.int k)] ∧ 0 ≤ k ∧ ∀ i : Int, Q (.sh (.int i)) []
def S__law_draw : VSp := fun args Q _ => ∃ (ns : List Int) (n : Nat) (m : Int), args = [scr ns, .io (twn n), .sh (.int m)] ∧ n ≤ 1000000 ∧ 0 < m ∧ ∀ i : Int, 0 ≤ i → i < m → Q (.sh (.int i)) [twn (n + 1)]
def S__law_pick : VSp := fun args Q _ => ∃ (ns : List Int) (n : Nat) (ds : List D), args = [scr ns, .io (twn n), .sh (.lst ds)] ∧ n ≤ 1000000 ∧ ds ≠ [] ∧ (∀ d ∈ ds, isIns d = false) ∧ ∀ d ∈ ds, Q (.sh d) [twn (n + 1)]
theorem ixN_ok {n : Nat} {k : Int} (h0 : 0 ≤ k) (h : k < n) : L2.ixN n k = some k.toNat := by
  unfold L2.ixN
  rw [if_pos h0, if_pos h]
theorem atI_mem {α : Type} {xs : List α} {k : Int} (h0 : 0 ≤ k) (h : k < xs.length) : ∃ x, L2.atI xs k = some x ∧ x ∈ xs := by
  unfold L2.atI
  rw [ixN_ok h0 h]
  have hl : k.toNat < xs.length := by omega
  exact ⟨xs[k.toNat], by simp [List.getElem?_eq_getElem hl], List.getElem_mem hl⟩
theorem pure__law_cell : Pure S__law_cell 2 2 T__law_cell := by
  rintro args QV EV _ _ ⟨ns, k, rfl, hk, hq⟩
  simp [T__law_cell, padE]
  by_cases h : ns = []
  · rw [if_pos h]; simp [K__law_cell_1]; exact hq 0
  · rw [if_neg h]
    have hp : 0 < ns.length := List.length_pos_iff.mpr h
    have h1 : (0 : Int) < ns.length := by omega
    rw [mod_int h1]
    simp
    obtain ⟨x, e, hx⟩ := atI_mem (xs := ns.map D.int) (k := k % ns.length) (Int.emod_nonneg _ (by omega)) (by simpa using Int.emod_lt_of_pos k h1)
    obtain ⟨i, _, rfl⟩ := List.mem_map.mp hx
    simp [e]
    exact hq i
theorem pure__law_mix : Pure S__law_mix 2 3 (T__law_mix S__law_cell) := by
  rintro args QV EV _ _ ⟨ns, k, rfl, hk, hq⟩
  simp [T__law_mix, padE]
  refine clI ⟨ns, k, rfl, hk, fun i => ?_⟩
  simp [K__law_mix_1, K__law_mix_2]
  exact hq _
theorem pure__law_draw : Pure S__law_draw 3 3 (T__law_draw S__law_mix) := by
  rintro args QV EV _ _ ⟨ns, n, m, rfl, hn, hm, hq⟩
  simp [T__law_draw, K__law_draw_1, padE, hn]
  refine clI ⟨ns, _, rfl, by omega, fun i => ?_⟩
  simp [hm]
  exact hq _ (Int.emod_nonneg _ (by omega)) (Int.emod_lt_of_pos _ hm)
theorem pure__law_pick : Pure S__law_pick 3 3 (T__law_pick S__law_draw) := by
  rintro args QV EV _ _ ⟨ns, n, ds, rfl, hn, hne, hi, hq⟩
  simp [T__law_pick, padE]
  have hl : 0 < ds.length := List.length_pos_iff.mpr hne
  refine clI ⟨ns, n, ds.length, rfl, hn, by omega, fun i h0 h1 => ?_⟩
  obtain ⟨x, e, hx⟩ := atI_mem (xs := ds) h0 h1
  simp [e, hi x hx]
  exact hq x hx
end VL
set_option linter.all false
set_option maxRecDepth 100000
set_option maxHeartbeats 4000000
namespace VL
open PySem PySem.Spec PyProof.Rows L2
def isIntD : D → Bool
  | .int _ => true
  | _ => false
def S__law_whole : VSp := fun args Q _ => ∃ d, args = [.sh d] ∧ basic d = true ∧ Q (.sh (.bl (isIntD d))) []
abbrev refTup : D := .tup [.str "refused", .str "thing"]
abbrev refD (w : Str) : D := .tup [.str "refused", .str w]
/-- what the refusals are told as -/
def refs : List (Str × Str) := [("BadThing", "thing"), ("BadText", "text"), ("BadWay", "way"), ("NoWay", "nothing there"), ("NoGo", "go"), ("Nothing", "nothing")]
def S__law_refusal : VSp := fun args Q _ => ∃ C fs w, args = [.sh (.exc C fs)] ∧ (C, w) ∈ refs ∧ Q (.sh (refD w)) []
theorem refusal_go {C w : Str} {fs : List (Str × D)} {QV : Sv → List D → Prop} {EV : Str → List (Str × D) → List D → Prop} {k : Int} {b0 b1 b2 b3 b4 b5 : Bool} (h0 : tab i_BadThing C = some b0) (h1 : tab i_BadText C = some b1) (h2 : tab i_BadWay C = some b2) (h3 : tab i_NoWay C = some b3) (h4 : tab i_NoGo C = some b4) (h5 : tab i_Nothing C = some b5) (h6 : tab i_ValueError C = some true)
    (hc : fCnt (.lst [.bl b0, .bl b1, .bl b2, .bl b3, .bl b4, .bl b5]) [.bl true] = some (.sh (.int 1))) (hi : fIdx (.lst [.bl b0, .bl b1, .bl b2, .bl b3, .bl b4, .bl b5]) [.bl true] = some (.sh (.int k))) (he : L2.atI [D.str "thing", D.str "text", D.str "way", D.str "nothing there", D.str "go", D.str "nothing"] k = some (.str w)) (hq : QV (.sh (refD w)) []) :
    T__law_refusal (bodyEnds [.sh (.exc C fs)] QV EV) (padE 2 [.sh (.exc C fs)]) := by
  have e0 : isEx (tab i_BadThing) (.exc C fs) = some b0 := h0
  have e1 : isEx (tab i_BadText) (.exc C fs) = some b1 := h1
  have e2 : isEx (tab i_BadWay) (.exc C fs) = some b2 := h2
  have e3 : isEx (tab i_NoWay) (.exc C fs) = some b3 := h3
  have e4 : isEx (tab i_NoGo) (.exc C fs) = some b4 := h4
  have e5 : isEx (tab i_Nothing) (.exc C fs) = some b5 := h5
  have e6 : isEx (tab i_ValueError) (.exc C fs) = some true := h6
  simp [T__law_refusal, padE]
  simp [K__law_refusal_4, e0, e1, e2]
  simp [K__law_refusal_3, e3, e4, e5]
  simp [K__law_refusal_2, isTy, hc, e6]
  simp [K__law_refusal_1, isTy, hi, he]
  exact hq
theorem pure__law_refusal : Pure S__law_refusal 1 2 T__law_refusal := by
  rintro args QV EV _ _ ⟨C, fs, w, rfl, hm, hq⟩
  simp only [refs, List.mem_cons, Prod.mk.injEq, List.not_mem_nil, or_false] at hm
  rcases hm with ⟨rfl, rfl⟩ | ⟨rfl, rfl⟩ | ⟨rfl, rfl⟩ | ⟨rfl, rfl⟩ | ⟨rfl, rfl⟩ | ⟨rfl, rfl⟩
  · exact refusal_go (k := 0) (b0 := true) (b1 := false) (b2 := false) (b3 := false) (b4 := false) (b5 := false) (by decide +kernel) (by decide +kernel) (by decide +kernel) (by decide +kernel) (by decide +kernel) (by decide +kernel) (by decide +kernel) rfl rfl rfl hq
  · exact refusal_go (k := 1) (b0 := false) (b1 := true) (b2 := false) (b3 := false) (b4 := false) (b5 := false) (by decide +kernel) (by decide +kernel) (by decide +kernel) (by decide +kernel) (by decide +kernel) (by decide +kernel) (by decide +kernel) rfl rfl rfl hq
  · exact refusal_go (k := 2) (b0 := false) (b1 := false) (b2 := true) (b3 := false) (b4 := false) (b5 := false) (by decide +kernel) (by decide +kernel) (by decide +kernel) (by decide +kernel) (by decide +kernel) (by decide +kernel) (by decide +kernel) rfl rfl rfl hq
  · exact refusal_go (k := 3) (b0 := false) (b1 := false) (b2 := false) (b3 := true) (b4 := false) (b5 := false) (by decide +kernel) (by decide +kernel) (by decide +kernel) (by decide +kernel) (by decide +kernel) (by decide +kernel) (by decide +kernel) rfl rfl rfl hq
  · exact refusal_go (k := 4) (b0 := false) (b1 := false) (b2 := false) (b3 := false) (b4 := true) (b5 := false) (by decide +kernel) (by decide +kernel) (by decide +kernel) (by decide +kernel) (by decide +kernel) (by decide +kernel) (by decide +kernel) rfl rfl rfl hq
  · exact refusal_go (k := 5) (b0 := false) (b1 := false) (b2 := false) (b3 := false) (b4 := false) (b5 := true) (by decide +kernel) (by decide +kernel) (by decide +kernel) (by decide +kernel) (by decide +kernel) (by decide +kernel) (by decide +kernel) rfl rfl rfl hq
theorem refs_thing : (("BadThing" : Str), ("thing" : Str)) ∈ refs := by simp [refs]
theorem refs_text : (("BadText" : Str), ("text" : Str)) ∈ refs := by simp [refs]
theorem refs_way : (("BadWay" : Str), ("way" : Str)) ∈ refs := by simp [refs]
theorem refs_noway : (("NoWay" : Str), ("nothing there" : Str)) ∈ refs := by simp [refs]
theorem refs_go : (("NoGo" : Str), ("go" : Str)) ∈ refs := by simp [refs]
theorem refs_nothing : (("Nothing" : Str), ("nothing" : Str)) ∈ refs := by simp [refs]
def lkd : D → Int
  | .non => 0 | .bl _ => 1 | .int _ => 2 | .str _ => 3 | .lst _ => 4 | .fzl _ => 4 | .dct _ => 5 | _ => 6
def S__law_kind : VSp := fun args Q _ => ∃ d, args = [.sh d] ∧ basic d = true ∧ Q (.sh (.int (lkd d))) []
theorem pure__law_kind : Pure S__law_kind 1 1 T__law_kind := by
  rintro args QV EV _ _ ⟨d, rfl, hb, hq⟩
  cases d <;> simp [basic] at hb <;> simp [T__law_kind, K__law_kind_1, K__law_kind_2, K__law_kind_3, padE] <;> exact hq
section
variable {n m : Nat} {a b d : D}
theorem lk_eq (ha : dat n a = true) (hb : dat m b = true) : lkd a = lkd b ↔ kindD a = kindD b := by
  rcases dat_cases ha with rfl | ⟨x, rfl⟩ | ⟨x, rfl⟩ | ⟨x, rfl, _⟩ | ⟨_, ds, _, rfl, _, _⟩ | ⟨_, kvs, _, rfl, _, _, _⟩ <;>
  rcases dat_cases hb with rfl | ⟨y, rfl⟩ | ⟨y, rfl⟩ | ⟨y, rfl, _⟩ | ⟨m', ds', e, rfl, _, _⟩ | ⟨m', kvs', e, rfl, _, _, _⟩ <;> simp [lkd]
theorem lk_row (ha : dat n a = true) : lkd a = 4 ↔ kindD a = "row" := by
  rcases dat_cases ha with rfl | ⟨x, rfl⟩ | ⟨x, rfl⟩ | ⟨x, rfl, _⟩ | ⟨_, ds, _, rfl, _, _⟩ | ⟨_, kvs, _, rfl, _, _, _⟩ <;> simp [lkd]
theorem lk_table (ha : dat n a = true) : lkd a = 5 ↔ kindD a = "table" := by
  rcases dat_cases ha with rfl | ⟨x, rfl⟩ | ⟨x, rfl⟩ | ⟨x, rfl, _⟩ | ⟨_, ds, _, rfl, _, _⟩ | ⟨_, kvs, _, rfl, _, _, _⟩ <;> simp [lkd]
theorem lk_lt (ha : dat n a = true) : lkd a < 6 := by
  rcases dat_cases ha with rfl | ⟨x, rfl⟩ | ⟨x, rfl⟩ | ⟨x, rfl, _⟩ | ⟨_, ds, _, rfl, _, _⟩ | ⟨_, kvs, _, rfl, _, _, _⟩ <;> simp [lkd]
end
def S__law_same (k : Nat) : VSp := fun args Q _ => ∃ n a b, args = [.sh a, .sh b] ∧ dat n a = true ∧ dat n b = true ∧ n < k ∧ Q (.sh (.bl (sm n a b))) []
/-! ## a copy -/
def cpS : D → Sv
  | .lst ds => .ow (.lst ds)
  | .dct kvs => .ow (.dct kvs)
  | d => .sh d
@[simp] theorem cpS_d {d : D} : (cpS d).d = d := by cases d <;> rfl
def S__law_copy (k : Nat) : VSp := fun args Q _ => ∃ n d, args = [.sh d] ∧ dat n d = true ∧ n < k ∧ Q (cpS d) []
theorem put_next {kvs : List (Key × D)} {n : Nat} {key : Key} {d : D} (nd : (kvs.map (·.1)).Nodup) (h : kvs[n]? = some (key, d)) : putD (kvs.take n) key d = kvs.take (n + 1) := by
  have hno : ((kvs.take n).any fun kv => decide (kv.1 = key)) = false := by
    rw [Bool.eq_false_iff]
    intro z
    obtain ⟨p, hp, e⟩ := List.any_eq_true.mp z
    simp only [decide_eq_true_eq] at e
    obtain ⟨j, hj, e2⟩ := List.mem_iff_getElem.mp hp
    have hjn : j < n := by simp at hj; omega
    have hjl : j < kvs.length := by simp at hj; omega
    have e3 : kvs[j] = p := by rw [← e2]; simp
    have hnl : n < kvs.length := (List.getElem?_eq_some_iff.mp h).1
    have e4 : kvs[n] = (key, d) := (List.getElem?_eq_some_iff.mp h).2
    have q : j = n := (List.getElem_inj (xs := kvs.map (·.1)) (h₀ := by simpa using hjl) (h₁ := by simpa using hnl) nd).mp (by simp [e3, e4, e])
    omega
  unfold putD
  rw [hno, if_neg (by simp), List.take_add_one, h]; rfl
end VL
set_option linter.all false
set_option maxRecDepth 100000
set_option maxHeartbeats 4000000
namespace VL
open PySem PySem.Spec PyProof.Rows L2
def S__law_weight (k : Nat) : VSp := fun args Q _ => ∃ n d, args = [.sh d] ∧ dat n d = true ∧ n < k ∧ Q (.sh (.int (lwt n d))) []
def S__law_nest : VSp := fun args Q _ => ∃ (d : D) (j : Nat), args = [.sh d, .sh (.int j)] ∧ isIns d = false ∧ j ≤ 1000 ∧ Q (.sh (nst j d)) []
def S__law_word : VSp := fun args Q _ => ∃ (ns : List Int) (n : Nat), args = [scr ns, .io (twn n)] ∧ n + 20 ≤ 1000000 ∧ ∀ (z : Str) (n' : Nat), isWord z = true → n ≤ n' → n' ≤ n + 20 → Q (.sh (.str z)) [twn n']
def S__law_leaf : VSp := fun args Q _ => ∃ (ns : List Int) (n : Nat), args = [scr ns, .io (twn n)] ∧ n + 30 ≤ 1000000 ∧ ∀ (d : D) (n' : Nat), dat 0 d = true → isTh 0 d = true → n ≤ n' → n' ≤ n + 30 → Q (.sh d) [twn n']
def bud : Nat → Nat
  | 0 => 40
  | m + 1 => 3 * (bud m + 20) + 40
/-- at most three things in each row and table -/
def slim : Nat → D → Bool
  | n + 1, .lst ds => decide (ds.length ≤ 3) && ds.all (slim n)
  | n + 1, .dct kvs => decide (kvs.length ≤ 3) && kvs.all fun p => slim n p.2
  | 0, .lst _ => false
  | 0, .dct _ => false
  | _, _ => true
theorem slim_lst {n : Nat} {ds : List D} : slim (n + 1) (.lst ds) = true ↔ ds.length ≤ 3 ∧ ∀ x ∈ ds, slim n x = true := by simp [slim]
theorem slim_dct {n : Nat} {kvs : List (Key × D)} : slim (n + 1) (.dct kvs) = true ↔ kvs.length ≤ 3 ∧ ∀ p ∈ kvs, slim n p.2 = true := by simp [slim]
theorem slim_leaf {n : Nat} {d : D} (h : dat 0 d = true) : slim n d = true := by
  cases d <;> simp [dat] at h <;> cases n <;> rfl
def S__law_thing (k : Nat) : VSp := fun args Q _ => ∃ (ns : List Int) (n m : Nat), args = [scr ns, .io (twn n), .sh (.int m)] ∧ m < k ∧ n + bud m ≤ 1000000 ∧ ∀ (d : D) (n' : Nat), dat m d = true → isTh m d = true → slim m d = true → n ≤ n' → n' ≤ n + bud m → Q (.sh d) [twn n']
end VL
set_option linter.all false
set_option maxRecDepth 100000
set_option maxHeartbeats 4000000
namespace VL
open PySem PySem.Spec PyProof.Rows L2
abbrev signsZ : Str := " !\"#$&'()*+,-./0123456789:;<=>?@AZ[\\]^_abcdefghijklmnopqrstuvwxyz{|}~"
theorem signs_ok : ∀ c ∈ signsZ.cps.toList, sgn c = true := by decide +kernel
theorem signs_len : 0 < signsZ.length := by decide +kernel
theorem isWord_of {z : Str} (h : z.length ≤ 60) (h2 : ∀ c ∈ z.cps.toList, sgn c = true) : isWord z = true := by
  simp only [isWord, Bool.and_eq_true, decide_eq_true_eq, List.all_eq_true]; exact ⟨h, h2⟩
/-- the words that are picked -/
theorem words_ok : ∀ z ∈ (["", "a", "b", "0", "1", "-", "~1", "a/b", "\"", "\\", "01"] : List Str), isWord z = true := by decide +kernel
end VL
set_option linter.all false
set_option maxRecDepth 100000
set_option maxHeartbeats 4000000
namespace VL
open PySem PySem.Spec PyProof.Rows L2
/-- a thing of tables: by pairs -/
theorem isTh_dct {n r : Nat} {kvs : List (Key × D)} (h : dat (n + 1) (.dct kvs) = true) : isTh (r + 1) (.dct kvs) = true ↔ ∀ p ∈ kvs, isWord (keyS p.1) = true ∧ isTh r p.2 = true := by
  have hp := inner_perm h
  simp only [isTh, Bool.and_eq_true, List.all_eq_true, keysOf, List.mem_map]
  constructor
  · rintro ⟨h1, h2⟩ p hp'
    exact ⟨h1 _ ⟨p, hp', rfl⟩, h2 _ (hp.mem_iff.mpr (List.mem_map.mpr ⟨p, hp', rfl⟩))⟩
  · intro h1
    refine ⟨?_, fun x hx => ?_⟩
    · rintro _ ⟨p, hp', rfl⟩; exact (h1 p hp').1
    · obtain ⟨p, hp', rfl⟩ := List.mem_map.mp (hp.mem_iff.mp hx)
      exact (h1 p hp').2
theorem isTh_lst {r : Nat} {ds : List D} : isTh (r + 1) (.lst ds) = true ↔ ∀ x ∈ ds, isTh r x = true := by simp [isTh]
theorem word_len {z : Str} (h : isWord z = true) : z.length ≤ 60 := by
  simp only [isWord, Bool.and_eq_true, decide_eq_true_eq] at h; exact h.1
/-- a pair is put into a table -/
theorem dat_put {m : Nat} {kvs : List (Key × D)} {z : Str} {d : D} (h : dat (m + 1) (.dct kvs) = true) (hz : z.length ≤ 16777216) (hl : (putD kvs (.inr z) d).length ≤ 16777215) (hd : dat m d = true) : dat (m + 1) (.dct (putD kvs (.inr z) d)) = true := by
  obtain ⟨h0, h1, h2⟩ := dat_dct.mp h
  unfold putD at hl ⊢
  split
  · refine dat_dct.mpr ⟨by simpa using h0, fun p hp => ?_, ?_⟩
    · obtain ⟨q, hq, rfl⟩ := List.mem_map.mp hp
      split
      · exact ⟨(h1 q hq).1, hd⟩
      · exact h1 q hq
    · have : (kvs.map fun kv => if kv.1 = Sum.inr z then (kv.1, d) else kv).map (·.1) = kvs.map (·.1) := by
        rw [List.map_map]; refine List.map_congr_left fun p _ => ?_
        simp only [Function.comp]; split <;> rfl
      rw [this]; exact h2
  · rename_i hno
    rw [if_neg hno] at hl
    refine dat_dct.mpr ⟨by simpa using hl, fun p hp => ?_, ?_⟩
    · rcases List.mem_append.mp hp with h | h
      · exact h1 p h
      · simp at h; subst h; exact ⟨by simpa [strKey] using hz, hd⟩
    · rw [List.map_append]
      refine List.nodup_append.mpr ⟨h2, by simp, ?_⟩
      intro a ha b hb e
      subst e
      simp at hb
      subst hb
      obtain ⟨p, hp, e⟩ := List.mem_map.mp ha
      exact hno (List.any_eq_true.mpr ⟨p, hp, by simpa using e⟩)
theorem mem_put {kvs : List (Key × D)} {k : Key} {d : D} {p : Key × D} (h : p ∈ putD kvs k d) : p ∈ kvs ∨ (p.1 = k ∧ p.2 = d) := by
  unfold putD at h
  split at h
  · obtain ⟨q, hq, rfl⟩ := List.mem_map.mp h
    split
    · rename_i e; exact .inr ⟨e, rfl⟩
    · exact .inl hq
  · rcases List.mem_append.mp h with h | h
    · exact .inl h
    · simp at h; subst h; exact .inr ⟨rfl, rfl⟩
theorem put_len {kvs : List (Key × D)} {k : Key} {d : D} : (putD kvs k d).length ≤ kvs.length + 1 := by
  unfold putD; split <;> simp
theorem put_len_mem {kvs : List (Key × D)} {z : Str} {d : D} (hk : ∀ p ∈ kvs, strKey p.1 = true) (h : z ∈ keysOf kvs) : (putD kvs (.inr z) d).length = kvs.length := by
  obtain ⟨y, hy⟩ := mem_keys hk h
  unfold putD
  rw [if_pos (List.any_eq_true.mpr ⟨_, hy, by simp⟩)]; simp
theorem isTh_put {n m r : Nat} {kvs : List (Key × D)} {z : Str} {d : D} (h : dat (m + 1) (.dct kvs) = true) (h' : dat (n + 1) (.dct (putD kvs (.inr z) d)) = true) (ht : isTh (r + 1) (.dct kvs) = true) (hz : isWord z = true) (hd : isTh r d = true) : isTh (r + 1) (.dct (putD kvs (.inr z) d)) = true := by
  rw [isTh_dct h']
  rw [isTh_dct h] at ht
  intro p hp
  rcases mem_put hp with h | ⟨h1, h2⟩
  · exact ht p h
  · rw [h1, h2]; exact ⟨hz, hd⟩
theorem bud_pos {m : Nat} : 40 ≤ bud m := by cases m <;> simp [bud] <;> omega
end VL
set_option linter.all false
set_option maxRecDepth 100000
set_option maxHeartbeats 400000
namespace VL
open PySem PySem.Spec PyProof.Rows L2 PySem.NumText
/-! ## ways -/
def stepD (d : D) (z : Str) : Option D := match d with
  | .lst ds => (idx ds.length z).bind fun k => ds[k]?
  | .dct kvs => valD kvs (.inr z)
  | _ => none
def ledD : D → List Str → Option D
  | d, [] => some d
  | d, z :: zs => (stepD d z).bind fun e => ledD e zs
def wayD (zs : List Str) : D := .tup (zs.map .str)
@[simp] theorem isIns_way {zs : List Str} : isIns (wayD zs) = false := rfl
@[simp] theorem dTs_way {zs : List Str} : dTs (wayD zs) = some (zs.map .str) := rfl
@[simp] theorem len_way {zs : List Str} : vLen [wayD zs] = some (.sh (.int zs.length)) := by simp [wayD]
def stepsD : D → List Str
  | .lst ds => (List.range ds.length).map fun (k : Nat) => strI k
  | .dct kvs => sortS (keysOf kvs)
  | _ => []
def waysD : Nat → D → List Str → List (List Str)
  | 0, _, w => [w]
  | n + 1, d, w => w :: ((stepsD d).map fun z => waysD n ((stepD d z).getD .non) (w ++ [z])).flatten
def tot : Nat → D → Nat
  | 0, _ => 1
  | n + 1, d => 1 + ((stepsD d).map fun z => tot n ((stepD d z).getD .non)).sum
/-- words of a size -/
def smallZ (zs : List Str) : Bool := decide (zs.length ≤ 1000000) && zs.all fun z => decide (z.length ≤ 1000000)
theorem smallZ_iff {zs : List Str} : smallZ zs = true ↔ zs.length ≤ 1000000 ∧ ∀ z ∈ zs, z.length ≤ 1000000 := by simp [smallZ]
theorem lp_map {α : Type} {i : Nat} {t : VTS} {N : VEnds} {env : En} (l : List α) (f : α → D) (I : Nat → En → Prop) (h0 : I 0 env)
    (step : ∀ n x env, l[n]? = some x → I n env → t { N with nx := I (n + 1), ct := I (n + 1), bk := N.nx } (env.set i (.sh (f x)))) (fin : ∀ env, I l.length env → N.nx env) : lpQ (l.map f) i t N env := by
  refine ⟨I, h0, fun n d env hd hI => ?_, fun env h => fin env (by simpa using h)⟩
  rw [List.getElem?_map, Option.map_eq_some_iff] at hd
  obtain ⟨x, hx, rfl⟩ := hd
  exact step n x env hx hI
theorem waysD_len {n : Nat} {d : D} {w : List Str} : (waysD n d w).length = tot n d := by
  induction n generalizing d w with
  | zero => rfl
  | succ n ih =>
    simp only [waysD, tot, List.length_cons, List.length_flatten, List.map_map]
    rw [Nat.add_comm]
    congr 2
    refine List.map_congr_left fun z _ => ?_
    simp only [Function.comp, ih]
theorem stepD_dat {n : Nat} {d e : D} {z : Str} (h : dat (n + 1) d = true) (hs : stepD d z = some e) : dat n e = true := by
  cases d with
  | lst ds =>
    simp only [stepD] at hs
    obtain ⟨k, hk, hs⟩ := Option.bind_eq_some_iff.mp hs
    exact (dat_lst.mp h).2 _ (List.mem_of_getElem? hs)
  | dct kvs => exact ((dat_dct.mp h).2.1 _ (valD_mem hs)).2
  | _ => simp [stepD] at hs
theorem stepD_zero {d e : D} {z : Str} (h : dat 0 d = true) : stepD d z = none := by
  cases d <;> simp [dat] at h <;> rfl
theorem stepD_dat' {n : Nat} {d e : D} {z : Str} (h : dat n d = true) (hs : stepD d z = some e) : dat n e = true := by
  cases n with
  | zero => rw [stepD_zero (e := e) h] at hs; cases hs
  | succ n => exact dat_mono (stepD_dat h hs)
theorem stepD_th {r : Nat} {n : Nat} {d e : D} {z : Str} (hd : dat n d = true) (h : isTh r d = true) (hs : stepD d z = some e) : isTh r e = true := by
  cases r with
  | zero => cases d <;> simp [isTh] at h <;> simp [stepD] at hs
  | succ r =>
    cases d with
    | lst ds =>
      simp only [stepD] at hs
      obtain ⟨k, hk, hs⟩ := Option.bind_eq_some_iff.mp hs
      exact isTh_mono (isTh_lst.mp h _ (List.mem_of_getElem? hs))
    | dct kvs =>
      cases n with
      | zero => simp [dat] at hd
      | succ n => exact isTh_mono ((isTh_dct hd).mp h _ (valD_mem hs)).2
    | _ => simp [stepD] at hs
theorem stepsD_val {n : Nat} {d : D} {z : Str} (h : dat n d = true) (hz : z ∈ stepsD d) : ∃ e, stepD d z = some e := by
  rcases dat_cases h with rfl | ⟨b, rfl⟩ | ⟨i, rfl⟩ | ⟨y, rfl, hy⟩ | ⟨m, ds, rfl, rfl, hl, hx⟩ | ⟨m, kvs, rfl, rfl, hl, hx, nd⟩
  · cases hz
  · cases hz
  · cases hz
  · cases hz
  · simp only [stepsD, List.mem_map, List.mem_range] at hz
    obtain ⟨k, hk, rfl⟩ := hz
    exact ⟨ds[k], by simp [stepD, idx_self hk, List.getElem?_eq_getElem hk]⟩
  · simp only [stepsD] at hz
    obtain ⟨e, he, _⟩ := ix_key hx nd (mem_sort.mp hz)
    exact ⟨e, he⟩
/-- steps are short -/
theorem stepsD_len {n : Nat} {d : D} {z : Str} (h : dat n d = true) (hz : z ∈ stepsD d) : z.length ≤ 16777216 := by
  rcases dat_cases h with rfl | ⟨b, rfl⟩ | ⟨i, rfl⟩ | ⟨y, rfl, hy⟩ | ⟨m, ds, rfl, rfl, hl, hx⟩ | ⟨m, kvs, rfl, rfl, hl, hx, nd⟩
  · cases hz
  · cases hz
  · cases hz
  · cases hz
  · simp only [stepsD, List.mem_map, List.mem_range] at hz
    obtain ⟨k, hk, rfl⟩ := hz
    have := strN_len (n := 10) (k := k) (by decide) (by omega)
    omega
  · simp only [stepsD] at hz
    obtain ⟨p, hp, rfl⟩ := List.mem_map.mp (mem_sort.mp hz)
    have h1 := (hx p hp).1
    have h2 := strKey_inr h1
    rw [h2] at h1; simpa [strKey] using h1
end VL
set_option linter.all false
set_option maxRecDepth 100000
set_option maxHeartbeats 400000
namespace VL
open PySem PySem.Spec PyProof.Rows L2 PySem.NumText
def S_is_step : VSp := fun args Q _ => ∃ z : Str, args = [.sh (.str z)] ∧ z.length ≤ 16777216 ∧ Q (.sh (.bl (isWord z))) []
def S_look_way : VSp := fun args Q E => ∃ zs, args = [.sh (wayD zs)] ∧ smallZ zs = true ∧ (zs.all isWord = true → Q (.sh .non) []) ∧ (zs.all isWord = false → E "BadWay" [] [])
def optN : Option Nat → D
  | some k => .int k
  | none => .non
def S_number_of : VSp := fun args Q _ => ∃ (z : Str) (n : Nat), args = [.sh (.str z), .sh (.int n)] ∧ z.length ≤ 16777216 ∧ n ≤ 100000000 ∧ Q (.sh (optN (idx n z))) []
def S_inner : VSp := fun args Q E => ∃ n d z, args = [.sh d, .sh (.str z)] ∧ dat n d = true ∧ z.length ≤ 16777216 ∧ (∀ e, stepD d z = some e → Q (.sh e) []) ∧ (stepD d z = none → E "NoWay" [] [])
def S_led : VSp := fun args Q E => ∃ n d zs, args = [.sh d, .sh (wayD zs)] ∧ dat n d = true ∧ smallZ zs = true ∧ (∀ e, ledD d zs = some e → Q (.sh e) []) ∧ (ledD d zs = none → E "NoWay" [] [])
theorem in_one (z : Str) (c : Nat) : vIn (.str ⟨#[c]⟩) (.str z) = some (.sh (.bl (decide (c ∈ z.cps.toList)))) := by
  simp only [vIn, isInD, Option.map_some, PySem.StrLaws.found_one]
theorem fig_iff (c : Nat) : decide (c ∈ ("0123456789" : Str).cps.toList) = (decide (48 ≤ c) && decide (c ≤ 57)) := by
  have e : ("0123456789" : Str).cps.toList = [48, 49, 50, 51, 52, 53, 54, 55, 56, 57] := by decide +kernel
  rw [e, Bool.eq_iff_iff]
  simp
  omega
theorem in_fig (c : Nat) : vIn (.str ⟨#[c]⟩) (.str "0123456789") = some (.sh (.bl (decide (48 ≤ c) && decide (c ≤ 57)))) := by rw [in_one, fig_iff]
theorem zero_iff (c : Nat) : ((⟨#[c]⟩ : Str) == ("0" : Str)) = decide (c = 48) := by
  have e : ("0" : Str) = ⟨#[48]⟩ := by decide +kernel
  rw [e, Bool.eq_iff_iff]
  simp
theorem zeroz_iff (z : Str) : (z == ("0" : Str)) = decide (z.cps.toList = [48]) := by
  have e : ("0" : Str) = ⟨#[48]⟩ := by decide +kernel
  rw [e, Bool.eq_iff_iff]
  cases z with
  | mk c => simp [← Array.toList_inj]
theorem cps_len {z : Str} : z.cps.toList.length = z.length := Array.length_toList
end VL
set_option linter.all false
set_option maxRecDepth 100000
set_option maxHeartbeats 400000
namespace VL
open PySem PySem.Spec PyProof.Rows L2 PySem.NumText
theorem dct_in {kvs : List (Key × D)} {z : Str} : vIn (.str z) (.dct kvs) = some (.sh (.bl (valD kvs (.inr z)).isSome)) := rfl
def S_copied (k : Nat) : VSp := S__law_copy k
def S_thing_at : VSp := fun args Q E => ∃ d zs, args = [.sh d, .sh (wayD zs)] ∧ dat 20 d = true ∧ smallZ zs = true ∧ (isTh 12 d = false → E "BadThing" [] []) ∧ (isTh 12 d = true → zs.all isWord = false → E "BadWay" [] []) ∧
  (isTh 12 d = true → zs.all isWord = true → (∀ e, ledD d zs = some e → Q (cpS e) []) ∧ (ledD d zs = none → E "NoWay" [] []))
theorem ledD_dat {n : Nat} : ∀ {zs : List Str} {d e : D}, dat n d = true → ledD d zs = some e → dat n e = true
  | [], d, e, h, hs => by simp only [ledD, Option.some.injEq] at hs; subst hs; exact h
  | z :: zs, d, e, h, hs => by
    simp only [ledD] at hs
    obtain ⟨x, hx, hs⟩ := Option.bind_eq_some_iff.mp hs
    exact ledD_dat (stepD_dat' h hx) hs
def S_leads : VSp := fun args Q E => ∃ d zs, args = [.sh d, .sh (wayD zs)] ∧ dat 20 d = true ∧ smallZ zs = true ∧ (isTh 12 d = false → E "BadThing" [] []) ∧ (isTh 12 d = true → zs.all isWord = false → E "BadWay" [] []) ∧
  (isTh 12 d = true → zs.all isWord = true → Q (.sh (.bl (ledD d zs).isSome)) [])
theorem cpS_ins {n : Nat} {d : D} (h : dat n d = true) : isIns (cpS d).d = false := by rw [cpS_d]; exact dat_ins h
def S_steps_of : VSp := fun args Q _ => ∃ n d, args = [.sh d] ∧ dat n d = true ∧ Q (.sh (.lst ((stepsD d).map .str))) []
end VL
set_option linter.all false
set_option maxRecDepth 100000
set_option maxHeartbeats 400000
namespace VL
open PySem PySem.Spec PyProof.Rows L2 PySem.NumText
theorem add_tup {a b : List D} (h : a.length + b.length ≤ 16777216) : vAdd (.tup a) (.tup b) = some (.sh (.tup (a ++ b))) := by simp [vAdd, fits, h]
theorem ext_lst {a b : List D} (h : a.length + b.length ≤ 16777216) : fExt (.lst a) [.lst b] = some (.non, .lst (a ++ b)) := by simp [fExt, dLs, h]
theorem way_add {zs : List Str} {z : Str} (h : zs.length ≤ 1000000) : vAdd (wayD zs) (.tup [.str z]) = some (.sh (wayD (zs ++ [z]))) := by
  rw [wayD, add_tup (by simp; omega)]; simp [wayD]
theorem sum_take_le : ∀ {l : List Nat} (k : Nat), (l.take k).sum ≤ l.sum
  | [], k => by simp
  | x :: l, 0 => by simp
  | x :: l, k + 1 => by simp only [List.take_succ_cons, List.sum_cons]; have := sum_take_le (l := l) k; omega
theorem mem_le_sum : ∀ {l : List Nat} {x : Nat}, x ∈ l → x ≤ l.sum
  | y :: l, x, h => by
    rw [List.sum_cons]
    rcases List.mem_cons.mp h with e | e
    · subst e; omega
    · have := mem_le_sum e; omega
theorem tot_pos {n : Nat} {d : D} : 1 ≤ tot n d := by cases n <;> simp [tot]
theorem tot_step {n : Nat} {d e : D} {z : Str} (hz : z ∈ stepsD d) (he : stepD d z = some e) : tot n e + 1 ≤ tot (n + 1) d := by
  have : tot n e ≤ ((stepsD d).map fun z => tot n ((stepD d z).getD .non)).sum := by
    have hm : tot n e ∈ (stepsD d).map fun z => tot n ((stepD d z).getD .non) := List.mem_map.mpr ⟨z, hz, by rw [he]; rfl⟩
    exact mem_le_sum hm
  simp only [tot]; omega
def S_ways_from (k : Nat) : VSp := fun args Q _ => ∃ n d zs, args = [.sh d, .sh (wayD zs)] ∧ dat n d = true ∧ n < k ∧ tot n d ≤ 1000000 ∧ zs.length + n ≤ 1000000 ∧ Q (.ow (.lst ((waysD n d zs).map wayD))) []
theorem stepsD_zero {d : D} (h : dat 0 d = true) : stepsD d = [] := by
  cases d <;> simp [dat] at h <;> rfl
/-- the ways of the first k steps -/
def waysK (n : Nat) (d : D) (w : List Str) (k : Nat) : List (List Str) := w :: (((stepsD d).take k).map fun z => waysD n ((stepD d z).getD .non) (w ++ [z])).flatten
theorem waysK_len {n : Nat} {d : D} {w : List Str} {k : Nat} : (waysK n d w k).length ≤ tot (n + 1) d := by
  simp only [waysK, tot, List.length_cons, List.length_flatten, List.map_map, Function.comp_def, waysD_len]
  have : (List.map (fun z => tot n ((stepD d z).getD .non)) ((stepsD d).take k)) = (List.map (fun z => tot n ((stepD d z).getD .non)) (stepsD d)).take k := by rw [List.map_take]
  rw [this]
  have := sum_take_le (l := List.map (fun z => tot n ((stepD d z).getD .non)) (stepsD d)) k
  omega
theorem waysK_succ {n : Nat} {d e : D} {w : List Str} {k : Nat} {z : Str} (hk : (stepsD d)[k]? = some z) (he : stepD d z = some e) : waysK n d w (k + 1) = waysK n d w k ++ waysD n e (w ++ [z]) := by
  simp [waysK, List.take_add_one, hk, he]
theorem waysK_all {n : Nat} {d : D} {w : List Str} : waysK n d w (stepsD d).length = waysD (n + 1) d w := by
  simp [waysK, waysD]
def S_all_ways : VSp := fun args Q E => ∃ n d, args = [.sh d] ∧ dat n d = true ∧ n < 21 ∧ tot n d ≤ 1000000 ∧ (isTh 12 d = true → Q (.ow (.lst ((waysD n d []).map wayD))) []) ∧ (isTh 12 d = false → E "BadThing" [] [])
/-! ## the law's own -/
def S__law_ways (k : Nat) : VSp := fun args Q _ => ∃ n d zs, args = [.sh d, .sh (wayD zs)] ∧ dat n d = true ∧ n < k ∧ tot n d ≤ 1000000 ∧ zs.length + n ≤ 1000000 ∧ Q (.sh (.lst ((waysD n d zs).map wayD))) []
end VL
set_option linter.all false
set_option maxRecDepth 100000
set_option maxHeartbeats 400000
namespace VL
open PySem PySem.Spec PyProof.Rows L2 PySem.NumText
theorem eq_nil {ds : List D} : vEq (.lst ds) (.lst []) = some (.sh (.bl ds.isEmpty)) := by
  cases ds with
  | nil =>
    have : eqOk (.lst []) (.lst []) = true := by simp [eqOk, pl, pls, dep, deps]
    simp [vEq, eqx, this, deq, deqs]
  | cons d ds =>
    unfold vEq eqx
    split
    · simp [deq, deqs]
    · simp
theorem ne_nil' {ds : List D} : vNe (.lst ds) (.lst []) = some (.sh (.bl (!ds.isEmpty))) := by
  cases ds with
  | nil =>
    have : eqOk (.lst []) (.lst []) = true := by simp [eqOk, pl, pls, dep, deps]
    simp [vNe, eqx, this, deq, deqs]
  | cons d ds =>
    unfold vNe eqx
    split
    · simp [deq, deqs]
    · simp
theorem flat_strs {l : List Str} : flsD (l.map .str) = true := by
  simp only [flsD, List.all_map]
  exact List.all_eq_true.mpr fun _ _ => rfl
theorem any_strs {l : List Str} {z : Str} : (l.map D.str).any (fun d => deq d (.str z)) = decide (z ∈ l) := by
  induction l with
  | nil => rfl
  | cons x l ih =>
    simp only [List.map_cons, List.any_cons, ih, deq_str, List.mem_cons]
    by_cases h : x = z
    · simp [h]
    · have h2 : ¬ z = x := fun e => h e.symm
      have h3 : (x == z) = false := beq_eq_false_iff_ne.mpr h
      simp [h2, h3]
theorem in_strs {l : List Str} {z : Str} : vIn (.str z) (.lst (l.map .str)) = some (.sh (.bl (decide (z ∈ l)))) := by
  have : flD (.str z) = true := rfl
  simp only [vIn, isInD, this, flat_strs, Bool.and_self, if_true, any_strs, Option.map_some]
theorem notIn_strs {l : List Str} {z : Str} : vNotIn (.str z) (.lst (l.map .str)) = some (.sh (.bl (!decide (z ∈ l)))) := by
  have : flD (.str z) = true := rfl
  simp only [vNotIn, isInD, this, flat_strs, Bool.and_self, if_true, any_strs, Option.map_some]
theorem at_last {α : Type} {l : List α} {x : α} : L2.atI (l ++ [x]) (-1) = some x := by
  unfold L2.atI L2.ixN
  rw [if_neg (by omega)]
  have e : (-1 + ((l ++ [x]).length : Int)).toNat = l.length := by simp; omega
  rw [if_pos (by simp; omega), e]
  simp
theorem idx_mem {n : Nat} {z : Str} : z ∈ (List.range n).map (fun (k : Nat) => strI k) ↔ ∃ k, idx n z = some k := by
  simp only [List.mem_map, List.mem_range]
  constructor
  · rintro ⟨k, h1, h2⟩; exact ⟨k, idx_some.mpr ⟨h1, h2⟩⟩
  · rintro ⟨k, h⟩; exact ⟨k, idx_some.mp h⟩
def cap : Nat → Nat
  | 0 => 1
  | m + 1 => 1 + 3 * cap m
theorem sum_le_len : ∀ {l : List Nat} {c : Nat}, (∀ x ∈ l, x ≤ c) → l.sum ≤ l.length * c
  | [], c, _ => by simp
  | x :: l, c, h => by
    have h1 := h x (by simp)
    have h2 := sum_le_len (l := l) (c := c) fun y hy => h y (by simp [hy])
    simp only [List.sum_cons, List.length_cons, Nat.succ_mul]; omega
theorem slim_step {m : Nat} {d e : D} {z : Str} (h : slim (m + 1) d = true) (he : stepD d z = some e) : slim m e = true := by
  cases d with
  | lst ds =>
    simp only [stepD] at he
    obtain ⟨k, hk, he⟩ := Option.bind_eq_some_iff.mp he
    exact (slim_lst.mp h).2 _ (List.mem_of_getElem? he)
  | dct kvs => exact (slim_dct.mp h).2 _ (valD_mem he)
  | _ => simp [stepD] at he
theorem slim_steps {m : Nat} {d : D} (h : slim m d = true) : (stepsD d).length ≤ 3 := by
  cases d with
  | lst ds =>
    cases m with
    | zero => simp [slim] at h
    | succ m => simp [stepsD]; exact (slim_lst.mp h).1
  | dct kvs =>
    cases m with
    | zero => simp [slim] at h
    | succ m => simp only [stepsD, sort_len, keys_len]; exact (slim_dct.mp h).1
  | _ => simp [stepsD]
theorem tot_slim : ∀ {m : Nat} {d : D}, dat m d = true → slim m d = true → tot m d ≤ cap m
  | 0, d, _, _ => by simp [tot, cap]
  | m + 1, d, hd, h => by
    simp only [tot, cap]
    have h1 : ((stepsD d).map fun z => tot m ((stepD d z).getD .non)).sum ≤ ((stepsD d).map fun z => tot m ((stepD d z).getD .non)).length * cap m := sum_le_len fun x hx => by
      obtain ⟨z, hz, rfl⟩ := List.mem_map.mp hx
      obtain ⟨e, he⟩ := stepsD_val hd hz
      rw [he]
      exact tot_slim (stepD_dat hd he) (slim_step h he)
    have h2 := slim_steps h
    rw [List.length_map] at h1
    have h3 : (stepsD d).length * cap m ≤ 3 * cap m := Nat.mul_le_mul_right _ h2
    omega
theorem strN_word {k : Nat} (h : k ≤ 1000000000) : isWord (strI k) = true := by
  have hl := strN_len (n := 10) (k := k) (by decide) (by omega)
  refine isWord_of (by omega) fun c hc => ?_
  have := strN_digits k c hc
  simp [sgn]; omega
theorem steps_word {n r : Nat} {d : D} {z : Str} (hd : dat n d = true) (ht : isTh r d = true) (hz : z ∈ stepsD d) : isWord z = true := by
  rcases dat_cases hd with rfl | ⟨b, rfl⟩ | ⟨i, rfl⟩ | ⟨y, rfl, hy⟩ | ⟨m, ds, rfl, rfl, hl, hx⟩ | ⟨m, kvs, rfl, rfl, hl, hx, nd⟩
  · cases hz
  · cases hz
  · cases hz
  · cases hz
  · simp only [stepsD, List.mem_map, List.mem_range] at hz
    obtain ⟨k, hk, rfl⟩ := hz
    exact strN_word (by omega)
  · simp only [stepsD] at hz
    cases r with
    | zero => simp [isTh] at ht
    | succ r =>
      obtain ⟨p, hp, rfl⟩ := List.mem_map.mp (mem_sort.mp hz)
      exact ((isTh_dct hd).mp ht p hp).1
theorem ledD_snoc : ∀ {zs : List Str} {d x e : D} {z : Str}, ledD d zs = some x → stepD x z = some e → ledD d (zs ++ [z]) = some e
  | [], d, x, e, z, h, h2 => by simp only [ledD, Option.some.injEq] at h; subst h; simp [ledD, h2]
  | y :: zs, d, x, e, z, h, h2 => by
    simp only [ledD] at h
    obtain ⟨u, hu, h⟩ := Option.bind_eq_some_iff.mp h
    simp only [List.cons_append, ledD, hu, Option.bind_some]
    exact ledD_snoc h h2
def S__law_way : VSp := fun args Q _ => ∃ (ns : List Int) (n m r : Nat) (d : D), args = [scr ns, .io (twn n), .sh d] ∧ dat m d = true ∧ isTh r d = true ∧ n + 10 ≤ 1000000 ∧ ∀ (zs : List Str) (n' : Nat), (ledD d zs).isSome = true → zs.all isWord = true → zs.length ≤ 4 → n ≤ n' → n' ≤ n + 10 → Q (.sh (wayD zs)) [twn n']
theorem idx_in {n : Nat} {z : Str} : decide (z ∈ (List.range n).map fun (k : Nat) => strI k) = (idx n z).isSome := by
  rw [Bool.eq_iff_iff, decide_eq_true_eq, idx_mem, Option.isSome_iff_exists]
def optL : Option D → List D
  | some e => [e]
  | none => []
def S__law_led : VSp := fun args Q _ => ∃ n d zs, args = [.sh d, .sh (wayD zs)] ∧ dat n d = true ∧ smallZ zs = true ∧ Q (.sh (.lst (optL (ledD d zs)))) []
end VL
set_option linter.all false
set_option maxRecDepth 100000
set_option maxHeartbeats 400000
namespace VL
open PySem PySem.Spec PyProof.Rows L2 PySem.NumText
mutual
theorem deq_refl : ∀ {d : D}, pl d = true → deq d d = true
  | .non, _ => by simp [deq]
  | .bl b, _ => by simp [deq]
  | .int b, _ => by simp [deq]
  | .str b, _ => by simp [deq]
  | .lst ds, h => by simp only [deq]; exact deqs_refl (by simpa [pl] using h)
  | .tup ds, h => by simp only [deq]; exact deqs_refl (by simpa [pl] using h)
  | .dct _, h => by simp [pl] at h
  | .fzl _, h => by simp [pl] at h
  | .exc _ _, h => by simp [pl] at h
  | .box _ _, h => by simp [pl] at h
theorem deqs_refl : ∀ {ds : List D}, pls ds = true → deqs ds ds = true
  | [], _ => by simp [deqs]
  | d :: ds, h => by
    simp only [pls, Bool.and_eq_true] at h
    simp only [deqs, Bool.and_eq_true]
    exact ⟨deq_refl h.1, deqs_refl h.2⟩
end
theorem ne_self {d : D} (h : pl d = true) (h2 : dep d ≤ 100) : vNe d d = some (.sh (.bl false)) := by
  have : eqOk d d = true := by simp [eqOk, h, h2]
  simp [vNe, eqx, this, deq_refl h]
theorem eq_self {d : D} (h : pl d = true) (h2 : dep d ≤ 100) : vEq d d = some (.sh (.bl true)) := by
  have : eqOk d d = true := by simp [eqOk, h, h2]
  simp [vEq, eqx, this, deq_refl h]
def x61 : Str := repZ "x" 61
def y61 : Str := repZ "y" 61
def y70 : Str := repZ "y" 70
theorem x61_len : x61.length = 61 := by rw [x61, repZ_len]; rfl
theorem y61_len : y61.length = 61 := by rw [y61, repZ_len]; rfl
theorem y70_len : y70.length = 70 := by rw [y70, repZ_len]; rfl
theorem x61_word : isWord x61 = false := by simp [isWord, x61_len]
theorem y61_word : isWord y61 = false := by simp [isWord, y61_len]
theorem y70_word : isWord y70 = false := by simp [isWord, y70_len]
theorem mulx61 : vMulS (D.str "x") (D.int 61) = some (.sh (.str x61)) := by
  unfold vMulS
  dsimp only
  rw [if_pos (by decide +kernel)]; rfl
theorem muly61 : vMulS (D.str "y") (D.int 61) = some (.sh (.str y61)) := by
  unfold vMulS
  dsimp only
  rw [if_pos (by decide +kernel)]; rfl
theorem muly70 : vMulS (D.str "y") (D.int 70) = some (.sh (.str y70)) := by
  unfold vMulS
  dsimp only
  rw [if_pos (by decide +kernel)]; rfl
theorem word_n : isWord "\n" = false := by decide +kernel
theorem th_str {r : Nat} {z : Str} : isTh r (.str z) = isWord z := by cases r <;> rfl
theorem ps1 {z : Str} {d : D} : psKeys [(D.str z, d)] = some [(.inr z, d)] := rfl
theorem mrg1 {k : Key} {d : D} : mergeD [] [(k, d)] = [(k, d)] := rfl
theorem mulR {w : Str} {n : Nat} (h : n < 100) : vMul (.lst [refD w]) (.int n) = some (.ow (.lst (List.replicate n (refD w)))) := by
  rw [mul_lst (a := [refD w]) (n := n) (by simp; omega) (by omega)]
  congr 3
  induction n with
  | zero => rfl
  | succ n ih => rw [List.replicate_succ, List.flatten_cons, ih (by omega)]; rfl
theorem pl_refs {w : Str} {n : Nat} : pls (List.replicate n (refD w)) = true := by
  induction n with
  | zero => rfl
  | succ n ih => simp [List.replicate_succ, pls, pl, ih]
theorem dep_refs {w : Str} {n : Nat} : deps (List.replicate n (refD w)) ≤ 1 := by
  induction n with
  | zero => simp [deps]
  | succ n ih => simp [List.replicate_succ, deps, dep, ih]
theorem ne_refs {w : Str} {n : Nat} : vNe (.lst (List.replicate n (refD w))) (.lst (List.replicate n (refD w))) = some (.sh (.bl false)) := by
  refine ne_self (by simp [pl, pl_refs]) ?_
  have := dep_refs (w := w) (n := n)
  simp only [dep]; omega
theorem eq_refs {w : Str} {n : Nat} : vEq (.lst (List.replicate n (refD w))) (.lst (List.replicate n (refD w))) = some (.sh (.bl true)) := by
  refine eq_self (by simp [pl, pl_refs]) ?_
  have := dep_refs (w := w) (n := n)
  simp only [dep]; omega
theorem mulR2 {w : Str} : vMul (.lst [.tup [.str "refused", .str w]]) (.int 2) = some (.ow (.lst [refD w, refD w])) := mulR (n := 2) (by omega)
theorem mulR3 {w : Str} : vMul (.lst [.tup [.str "refused", .str w]]) (.int 3) = some (.ow (.lst [refD w, refD w, refD w])) := mulR (n := 3) (by omega)
theorem ne_refs2 {w : Str} : vNe (.lst [refD w, refD w]) (.lst [refD w, refD w]) = some (.sh (.bl false)) := ne_refs (n := 2)
theorem eq_refs3 {w : Str} : vEq (.lst [refD w, refD w, refD w]) (.lst [refD w, refD w, refD w]) = some (.sh (.bl true)) := eq_refs (n := 3)
theorem ne_refD {w : Str} : vNe (refD w) (refD w) = some (.sh (.bl false)) := ne_self (by simp [pl, pls]) (by simp [dep, deps])
theorem cpS_cases {d : D} : cpS d = .ow d ∨ cpS d = .sh d := by cases d <;> first | exact .inl rfl | exact .inr rfl
theorem fz_cpS {n : Nat} {e : D} (h : dat n e = true) : fzS (cpS e) = .sh e ∧ fzOk1 (cpS e) = true ∧ (cpS e).rd = some e := by
  rcases dat_cases h with rfl | ⟨b, rfl⟩ | ⟨i, rfl⟩ | ⟨y, rfl, hy⟩ | ⟨m, ds, rfl, rfl, hl2, hx2⟩ | ⟨m, kvs, rfl, rfl, hl2, hx2, nd⟩ <;> exact ⟨rfl, rfl, rfl⟩
theorem slim_mono : ∀ {n : Nat} {d : D}, slim n d = true → slim (n + 1) d = true := by
  intro n
  induction n with
  | zero => intro d h; cases d <;> first | rfl | (simp [slim] at h; done)
  | succ n ih =>
    intro d h
    cases d with
    | lst ds => rw [slim_lst] at h ⊢; exact ⟨h.1, fun x hx => ih (h.2 x hx)⟩
    | dct kvs => rw [slim_dct] at h ⊢; exact ⟨h.1, fun p hp => ih (h.2 p hp)⟩
    | _ => rfl
theorem slim_step' {m : Nat} {d e : D} {z : Str} (h : slim m d = true) (he : stepD d z = some e) : slim m e = true := by
  cases m with
  | zero => cases d <;> simp [slim] at h <;> simp [stepD] at he
  | succ m => exact slim_mono (slim_step h he)
theorem slim_led {m : Nat} : ∀ {zs : List Str} {d e : D}, slim m d = true → ledD d zs = some e → slim m e = true
  | [], d, e, h, hs => by simp only [ledD, Option.some.injEq] at hs; subst hs; exact h
  | z :: zs, d, e, h, hs => by
    simp only [ledD] at hs
    obtain ⟨x, hx, hs⟩ := Option.bind_eq_some_iff.mp hs
    exact slim_led (slim_step' h hx) hs
theorem slim_len {m : Nat} {ds : List D} (h : slim m (.lst ds) = true) : ds.length ≤ 3 := by
  cases m with
  | zero => simp [slim] at h
  | succ m => exact (slim_lst.mp h).1
theorem pl_way {zs : List Str} : pl (wayD zs) = true := by simp [wayD, pl, pls0]
theorem dep_way {zs : List Str} : dep (wayD zs) = 1 := by simp [wayD, dep, deps0]
theorem smallZ_of {zs : List Str} (h : zs.all isWord = true) (hl : zs.length ≤ 100) : smallZ zs = true := by
  rw [smallZ_iff]
  refine ⟨by omega, fun z hz => ?_⟩
  have := word_len (List.all_eq_true.mp h z hz)
  omega
theorem cut_toT {ds : List D} {j : Nat} : vCut (.tup ds) none (some (j : Int)) = some (.sh (.tup (ds.take j))) := by
  simp only [vCut, cutD, HT.sIx_none, HT.sIx_nat, List.drop_zero, Nat.sub_zero]
  congr 3
  rcases Nat.le_total j ds.length with h | h
  · rw [Nat.min_eq_left h]
  · rw [Nat.min_eq_right h, List.take_of_length_le (Nat.le_refl _), List.take_of_length_le h]
theorem cut_fromT {ds : List D} {j : Nat} : vCut (.tup ds) (some (j : Int)) none = some (.sh (.tup (ds.drop j))) := by
  simp only [vCut, cutD, HT.sIx_none, HT.sIx_nat]
  congr 3
  rcases Nat.le_total j ds.length with h | h
  · rw [Nat.min_eq_left h, List.take_of_length_le (by simp)]
  · rw [Nat.min_eq_right h]; simp [List.drop_eq_nil_of_le h]
end VL
set_option linter.all false
set_option maxRecDepth 100000
set_option maxHeartbeats 400000
namespace VL
open PySem PySem.Spec PyProof.Rows L2
/-! ## tables by what they have at a key -/
section
variable {kvs xs ys : List (Key × D)} {k k' : Key} {d e : D} {n m : Nat}
theorem valD_nil : valD [] k = none := rfl
theorem valD_cons {p : Key × D} : valD (p :: kvs) k = if p.1 = k then some p.2 else valD kvs k := by
  unfold valD
  by_cases h : p.1 = k
  · simp [h]
  · simp [h]
theorem valD_append : valD (xs ++ ys) k = (valD xs k).or (valD ys k) := by
  induction xs with
  | nil => simp [valD_nil]
  | cons p xs ih =>
    rw [List.cons_append, valD_cons, valD_cons]
    split
    · rfl
    · exact ih
theorem valD_isSome : (valD kvs k).isSome = kvs.any fun kv => decide (kv.1 = k) := by
  induction kvs with
  | nil => rfl
  | cons p xs ih =>
    rw [valD_cons, List.any_cons]
    by_cases h : p.1 = k
    · simp [h]
    · simp [h, ih]
theorem valD_put : valD (putD kvs k d) k' = if k' = k then some d else valD kvs k' := by
  unfold putD
  split
  · rename_i hh
    induction kvs with
    | nil => simp at hh
    | cons p xs ih =>
      rw [List.map_cons, valD_cons, valD_cons]
      by_cases hp : p.1 = k
      · rw [if_pos hp]
        by_cases hk : k' = k
        · subst hk; simp [hp]
        · rw [if_neg hk]
          have h1 : ¬ k = k' := fun z => hk z.symm
          simp only [hp, h1, if_false]
          have key : ∀ l : List (Key × D), valD (l.map fun kv => if kv.1 = k then (kv.1, d) else kv) k' = valD l k' := fun l => by
            induction l with
            | nil => rfl
            | cons q l ih =>
              rw [List.map_cons, valD_cons, valD_cons, ih]
              by_cases hq : q.1 = k
              · rw [if_pos hq, hq, if_neg h1, if_neg h1]
              · rw [if_neg hq]
          exact key xs
      · rw [if_neg hp]
        have : (xs.any fun kv => decide (kv.1 = k)) = true := by simpa [hp] using hh
        rw [ih this]
        by_cases hk : k' = k
        · subst hk; simp [hp]
        · rw [if_neg hk, if_neg hk]
  · rename_i hh
    rw [valD_append, valD_cons]
    by_cases hk : k' = k
    · subst hk
      have : valD kvs k' = none := by
        have := valD_isSome (kvs := kvs) (k := k')
        rw [Bool.not_eq_true] at hh
        rw [hh] at this
        exact Option.not_isSome_iff_eq_none.mp (by rw [this]; simp)
      simp [this]
    · have h1 : ¬ k = k' := fun z => hk z.symm
      simp [hk, h1, valD_nil]
theorem valD_drop : valD (dropD kvs k) k' = if k' = k then none else valD kvs k' := by
  unfold dropD
  induction kvs with
  | nil => simp [valD_nil]
  | cons p xs ih =>
    rw [List.filter_cons]
    by_cases hp : p.1 = k
    · simp only [hp, ne_eq, not_true_eq_false, decide_false, Bool.false_eq_true, if_false]
      rw [ih, valD_cons]
      by_cases hk : k' = k
      · simp [hk]
      · have h1 : ¬ k = k' := fun z => hk z.symm
        simp [hk, hp, h1]
    · simp only [hp, ne_eq, not_false_eq_true, decide_true, if_true]
      rw [valD_cons, ih, valD_cons]
      by_cases hk : k' = k
      · subst hk; simp [hp]
      · simp [hk]
/-- what the first k+1 pairs have -/
theorem valD_take (nd : (kvs.map (·.1)).Nodup) {j : Nat} (h : kvs[j]? = some (k, d)) : valD (kvs.take (j + 1)) k' = if k' = k then some d else valD (kvs.take j) k' := by
  rw [← put_next nd h, valD_put]
theorem valD_take_new (nd : (kvs.map (·.1)).Nodup) {j : Nat} (h : kvs[j]? = some (k, d)) : valD (kvs.take j) k = none := by
  refine valD_none fun p hp e => ?_
  obtain ⟨i, hi, e2⟩ := List.mem_iff_getElem.mp hp
  have hij : i < j := by simp at hi; omega
  have hil : i < kvs.length := by simp at hi; omega
  have hjl := (List.getElem?_eq_some_iff.mp h).1
  have ej := (List.getElem?_eq_some_iff.mp h).2
  have e3 : kvs[i] = p := by rw [← e2]; simp
  have q : i = j := (List.getElem_inj (xs := kvs.map (·.1)) (h₀ := by simpa using hil) (h₁ := by simpa using hjl) nd).mp (by simp [e3, ej, e])
  omega
theorem sort_perm_eq {a b : List Str} (h : a.Perm b) : sortS a = sortS b :=
  List.Perm.eq_of_pairwise (le := fun a b => leS a b = true) (fun a b _ _ => leS_antisymm a b) (sortS_pw a) (sortS_pw b) (((sortS_perm a).trans h).trans (sortS_perm b).symm)
theorem nodup_inr {l : List Str} (h : (l.map (Sum.inr : Str → Key)).Nodup) : l.Nodup := by
  rw [List.Nodup, List.pairwise_map] at h
  exact h.imp fun q e => q (by rw [e])
/-- the same, table by table -/
theorem sm_dct_iff (hx : dat (n + 1) (.dct xs) = true) (hy : dat (n + 1) (.dct ys) = true) : sm (n + 1) (.dct xs) (.dct ys) = true ↔ ∀ z, (valD xs (.inr z) = none ∧ valD ys (.inr z) = none) ∨ ∃ a b, valD xs (.inr z) = some a ∧ valD ys (.inr z) = some b ∧ sm n a b = true := by
  obtain ⟨_, hx1, hxn⟩ := dat_dct.mp hx
  obtain ⟨_, hy1, hyn⟩ := dat_dct.mp hy
  have mem : ∀ {l : List (Key × D)} {z : Str}, (∀ p ∈ l, strKey p.1 = true ∧ dat n p.2 = true) → (l.map (·.1)).Nodup → (z ∈ keysOf l ↔ ∃ a, valD l (.inr z) = some a) := fun {l z} h1 h2 => by
    constructor
    · intro h
      obtain ⟨a, e, _⟩ := ix_key h1 h2 h
      exact ⟨a, e⟩
    · rintro ⟨a, e⟩
      exact List.mem_map.mpr ⟨_, valD_mem e, rfl⟩
  simp only [sm, Bool.and_eq_true, decide_eq_true_eq, List.all_eq_true]
  constructor
  · rintro ⟨h1, h2⟩ z
    cases e : valD xs (.inr z) with
    | none =>
      refine .inl ⟨rfl, ?_⟩
      cases e2 : valD ys (.inr z) with
      | none => rfl
      | some b =>
        have : z ∈ keysOf ys := (mem hy1 hyn).mpr ⟨b, e2⟩
        obtain ⟨a, ea⟩ := (mem hx1 hxn).mp ((sort_mem h1 z).mpr this)
        rw [e] at ea; cases ea
    | some a =>
      have hz : z ∈ keysOf xs := (mem hx1 hxn).mpr ⟨a, e⟩
      obtain ⟨b, eb⟩ := (mem hy1 hyn).mp ((sort_mem h1 z).mp hz)
      refine .inr ⟨a, b, rfl, eb, ?_⟩
      have := h2 z hz
      rw [e, eb] at this
      exact this
  · intro h
    have hm : ∀ z, z ∈ keysOf xs ↔ z ∈ keysOf ys := fun z => by
      rw [mem hx1 hxn, mem hy1 hyn]
      rcases h z with ⟨h1, h2⟩ | ⟨a, b, h1, h2, _⟩
      · rw [h1, h2]
      · rw [h1, h2]; exact ⟨fun _ => ⟨b, rfl⟩, fun _ => ⟨a, rfl⟩⟩
    have ndk : ∀ {l : List (Key × D)}, (∀ p ∈ l, strKey p.1 = true ∧ dat n p.2 = true) → (l.map (·.1)).Nodup → (keysOf l).Nodup := fun {l} h1 h2 => by
      have e : l.map (·.1) = (keysOf l).map Sum.inr := by
        rw [keysOf, List.map_map]
        refine List.map_congr_left fun p hp => ?_
        exact strKey_inr (h1 p hp).1
      rw [e] at h2
      exact nodup_inr h2
    refine ⟨?_, fun z hz => ?_⟩
    · have hp : (keysOf xs).Perm (keysOf ys) := (List.perm_ext_iff_of_nodup (ndk hx1 hxn) (ndk hy1 hyn)).mpr hm
      exact sort_perm_eq hp
    · obtain ⟨a, e⟩ := (mem hx1 hxn).mp hz
      rcases h z with ⟨h1, _⟩ | ⟨a', b, h1, h2, h3⟩
      · rw [e] at h1; cases h1
      · rw [e] at h1; cases h1
        rw [e, h2]; exact h3
end
end VL
set_option linter.all false
set_option maxRecDepth 100000
set_option maxHeartbeats 400000
namespace VL
open PySem PySem.Spec PyProof.Rows L2
/-! ## shapes as data -/
@[simp] theorem sw_0_1 : (("any" : Str) = "none") = False := eq_false (by decide +kernel)
@[simp] theorem sw_0_2 : (("any" : Str) = "truth") = False := eq_false (by decide +kernel)
@[simp] theorem sw_0_3 : (("any" : Str) = "number") = False := eq_false (by decide +kernel)
@[simp] theorem sw_0_4 : (("any" : Str) = "word") = False := eq_false (by decide +kernel)
@[simp] theorem sw_0_5 : (("any" : Str) = "row") = False := eq_false (by decide +kernel)
@[simp] theorem sw_0_6 : (("any" : Str) = "table") = False := eq_false (by decide +kernel)
@[simp] theorem sw_0_7 : (("any" : Str) = "or") = False := eq_false (by decide +kernel)
@[simp] theorem sw_0_8 : (("any" : Str) = "all") = False := eq_false (by decide +kernel)
@[simp] theorem sw_0_9 : (("any" : Str) = "x") = False := eq_false (by decide +kernel)
@[simp] theorem sw_0_10 : (("any" : Str) = "") = False := eq_false (by decide +kernel)
@[simp] theorem sw_1_0 : (("none" : Str) = "any") = False := eq_false (by decide +kernel)
@[simp] theorem sw_1_7 : (("none" : Str) = "or") = False := eq_false (by decide +kernel)
@[simp] theorem sw_1_8 : (("none" : Str) = "all") = False := eq_false (by decide +kernel)
@[simp] theorem sw_1_9 : (("none" : Str) = "x") = False := eq_false (by decide +kernel)
@[simp] theorem sw_1_10 : (("none" : Str) = "") = False := eq_false (by decide +kernel)
@[simp] theorem sw_2_0 : (("truth" : Str) = "any") = False := eq_false (by decide +kernel)
@[simp] theorem sw_2_7 : (("truth" : Str) = "or") = False := eq_false (by decide +kernel)
@[simp] theorem sw_2_8 : (("truth" : Str) = "all") = False := eq_false (by decide +kernel)
@[simp] theorem sw_2_9 : (("truth" : Str) = "x") = False := eq_false (by decide +kernel)
@[simp] theorem sw_2_10 : (("truth" : Str) = "") = False := eq_false (by decide +kernel)
@[simp] theorem sw_3_0 : (("number" : Str) = "any") = False := eq_false (by decide +kernel)
@[simp] theorem sw_3_7 : (("number" : Str) = "or") = False := eq_false (by decide +kernel)
@[simp] theorem sw_3_8 : (("number" : Str) = "all") = False := eq_false (by decide +kernel)
@[simp] theorem sw_3_9 : (("number" : Str) = "x") = False := eq_false (by decide +kernel)
@[simp] theorem sw_3_10 : (("number" : Str) = "") = False := eq_false (by decide +kernel)
@[simp] theorem sw_4_0 : (("word" : Str) = "any") = False := eq_false (by decide +kernel)
@[simp] theorem sw_4_7 : (("word" : Str) = "or") = False := eq_false (by decide +kernel)
@[simp] theorem sw_4_8 : (("word" : Str) = "all") = False := eq_false (by decide +kernel)
@[simp] theorem sw_4_9 : (("word" : Str) = "x") = False := eq_false (by decide +kernel)
@[simp] theorem sw_4_10 : (("word" : Str) = "") = False := eq_false (by decide +kernel)
@[simp] theorem sw_5_0 : (("row" : Str) = "any") = False := eq_false (by decide +kernel)
@[simp] theorem sw_5_7 : (("row" : Str) = "or") = False := eq_false (by decide +kernel)
@[simp] theorem sw_5_8 : (("row" : Str) = "all") = False := eq_false (by decide +kernel)
@[simp] theorem sw_5_9 : (("row" : Str) = "x") = False := eq_false (by decide +kernel)
@[simp] theorem sw_5_10 : (("row" : Str) = "") = False := eq_false (by decide +kernel)
@[simp] theorem sw_6_0 : (("table" : Str) = "any") = False := eq_false (by decide +kernel)
@[simp] theorem sw_6_7 : (("table" : Str) = "or") = False := eq_false (by decide +kernel)
@[simp] theorem sw_6_8 : (("table" : Str) = "all") = False := eq_false (by decide +kernel)
@[simp] theorem sw_6_9 : (("table" : Str) = "x") = False := eq_false (by decide +kernel)
@[simp] theorem sw_6_10 : (("table" : Str) = "") = False := eq_false (by decide +kernel)
@[simp] theorem sw_7_0 : (("or" : Str) = "any") = False := eq_false (by decide +kernel)
@[simp] theorem sw_7_1 : (("or" : Str) = "none") = False := eq_false (by decide +kernel)
@[simp] theorem sw_7_2 : (("or" : Str) = "truth") = False := eq_false (by decide +kernel)
@[simp] theorem sw_7_3 : (("or" : Str) = "number") = False := eq_false (by decide +kernel)
@[simp] theorem sw_7_4 : (("or" : Str) = "word") = False := eq_false (by decide +kernel)
@[simp] theorem sw_7_5 : (("or" : Str) = "row") = False := eq_false (by decide +kernel)
@[simp] theorem sw_7_6 : (("or" : Str) = "table") = False := eq_false (by decide +kernel)
@[simp] theorem sw_7_8 : (("or" : Str) = "all") = False := eq_false (by decide +kernel)
@[simp] theorem sw_7_9 : (("or" : Str) = "x") = False := eq_false (by decide +kernel)
@[simp] theorem sw_7_10 : (("or" : Str) = "") = False := eq_false (by decide +kernel)
@[simp] theorem sw_8_0 : (("all" : Str) = "any") = False := eq_false (by decide +kernel)
@[simp] theorem sw_8_1 : (("all" : Str) = "none") = False := eq_false (by decide +kernel)
@[simp] theorem sw_8_2 : (("all" : Str) = "truth") = False := eq_false (by decide +kernel)
@[simp] theorem sw_8_3 : (("all" : Str) = "number") = False := eq_false (by decide +kernel)
@[simp] theorem sw_8_4 : (("all" : Str) = "word") = False := eq_false (by decide +kernel)
@[simp] theorem sw_8_5 : (("all" : Str) = "row") = False := eq_false (by decide +kernel)
@[simp] theorem sw_8_6 : (("all" : Str) = "table") = False := eq_false (by decide +kernel)
@[simp] theorem sw_8_7 : (("all" : Str) = "or") = False := eq_false (by decide +kernel)
@[simp] theorem sw_8_9 : (("all" : Str) = "x") = False := eq_false (by decide +kernel)
@[simp] theorem sw_8_10 : (("all" : Str) = "") = False := eq_false (by decide +kernel)
@[simp] theorem sw_9_0 : (("x" : Str) = "any") = False := eq_false (by decide +kernel)
@[simp] theorem sw_9_1 : (("x" : Str) = "none") = False := eq_false (by decide +kernel)
@[simp] theorem sw_9_2 : (("x" : Str) = "truth") = False := eq_false (by decide +kernel)
@[simp] theorem sw_9_3 : (("x" : Str) = "number") = False := eq_false (by decide +kernel)
@[simp] theorem sw_9_4 : (("x" : Str) = "word") = False := eq_false (by decide +kernel)
@[simp] theorem sw_9_5 : (("x" : Str) = "row") = False := eq_false (by decide +kernel)
@[simp] theorem sw_9_6 : (("x" : Str) = "table") = False := eq_false (by decide +kernel)
@[simp] theorem sw_9_7 : (("x" : Str) = "or") = False := eq_false (by decide +kernel)
@[simp] theorem sw_9_8 : (("x" : Str) = "all") = False := eq_false (by decide +kernel)
@[simp] theorem sw_9_10 : (("x" : Str) = "") = False := eq_false (by decide +kernel)
@[simp] theorem sw_10_0 : (("" : Str) = "any") = False := eq_false (by decide +kernel)
@[simp] theorem sw_10_1 : (("" : Str) = "none") = False := eq_false (by decide +kernel)
@[simp] theorem sw_10_2 : (("" : Str) = "truth") = False := eq_false (by decide +kernel)
@[simp] theorem sw_10_3 : (("" : Str) = "number") = False := eq_false (by decide +kernel)
@[simp] theorem sw_10_4 : (("" : Str) = "word") = False := eq_false (by decide +kernel)
@[simp] theorem sw_10_5 : (("" : Str) = "row") = False := eq_false (by decide +kernel)
@[simp] theorem sw_10_6 : (("" : Str) = "table") = False := eq_false (by decide +kernel)
@[simp] theorem sw_10_7 : (("" : Str) = "or") = False := eq_false (by decide +kernel)
@[simp] theorem sw_10_8 : (("" : Str) = "all") = False := eq_false (by decide +kernel)
@[simp] theorem sw_10_9 : (("" : Str) = "x") = False := eq_false (by decide +kernel)
def keysT (es : List D) : List Str := es.filterMap fun e => match e with
  | .tup (.str k :: _) => some k
  | _ => none
def rising (l : List Str) : Bool := decide (l = sortS (once l))
abbrev MOST : Int := 999999999999999
def enOf (f : D → Bool) (e : D) : Bool := match e with
  | .tup [.str k, s, .bl _] => isWord k && f s
  | _ => false
def restOf (f : D → Bool) (q : D) : Bool := match q with
  | .non => true
  | q => f q
/-- a shape, where f tells which are those within it -/
def shOf (f : D → Bool) (d : D) : Bool := match d with
  | .tup [.str w] => decide (w = "any") || decide (w = "none") || decide (w = "truth")
  | .tup [.str w, .int a] => decide (w = "word") && (decide (0 ≤ a) && decide (a ≤ 60))
  | .tup [.str w, .tup ss] => decide (w = "or") && ss.all f
  | .tup [.str w, .int a, .int b] => decide (w = "number") && (decide (-MOST ≤ a) && (decide (a ≤ b) && decide (b ≤ MOST)))
  | .tup [.str w, .tup es, q] => decide (w = "table") && (es.all (enOf f) && (rising (keysT es) && restOf f q))
  | .tup [.str w, s, .int a, .int b] => decide (w = "row") && ((decide (0 ≤ a) && (decide (a ≤ b) && decide (b ≤ 1000000))) && f s)
  | _ => false
/-- a shape, at most r of them within one another -/
def isSh : Nat → D → Bool
  | 0, _ => false
  | r + 1, d => shOf (isSh r) d
def isEn (r : Nat) (e : D) : Bool := enOf (isSh r) e
def restOk (r : Nat) (q : D) : Bool := restOf (isSh r) q
theorem isSh_any {r : Nat} : isSh (r + 1) (.tup [.str "any"]) = true := by simp [isSh, shOf]
theorem isSh_word {r : Nat} {a : Int} : isSh (r + 1) (.tup [.str "word", .int a]) = (decide (0 ≤ a) && decide (a ≤ 60)) := by simp [isSh, shOf]
theorem isSh_num {r : Nat} {a b : Int} : isSh (r + 1) (.tup [.str "number", .int a, .int b]) = (decide (-MOST ≤ a) && (decide (a ≤ b) && decide (b ≤ MOST))) := by simp [isSh, shOf]
theorem isSh_or {r : Nat} {ss : List D} : isSh (r + 1) (.tup [.str "or", .tup ss]) = ss.all (isSh r) := by simp [isSh, shOf]
theorem isSh_tab {r : Nat} {es : List D} {q : D} : isSh (r + 1) (.tup [.str "table", .tup es, q]) = (es.all (isEn r) && (rising (keysT es) && restOk r q)) := by
  simp only [isSh, shOf, decide_true, Bool.true_and]; rfl
theorem isSh_row {r : Nat} {s : D} {a b : Int} : isSh (r + 1) (.tup [.str "row", s, .int a, .int b]) = ((decide (0 ≤ a) && (decide (a ≤ b) && decide (b ≤ 1000000))) && isSh r s) := by simp [isSh, shOf]
mutual
inductive Sf : Nat → D → Prop
  | nil {n : Nat} : Sf n (.tup [])
  | one {n : Nat} {w : Str} {l : List D} (h : w = "any" ∨ w = "none" ∨ w = "truth") : Sf (n + 1) (.tup (.str w :: l))
  | bad {n : Nat} {w : Str} {l : List D} {o : Option Int} (h : (w, o) ∈ kt_SIZES) (hl : ∀ z, o = some z → ((l.length : Int) + 1) ≠ z) : Sf (n + 1) (.tup (.str w :: l))
  | num {n : Nat} {a b : Int} : Sf (n + 1) (.tup [.str "number", .int a, .int b])
  | word {n : Nat} {a : Int} : Sf (n + 1) (.tup [.str "word", .int a])
  | row {n : Nat} {s : D} {a b : Int} (h : Sf n s) : Sf (n + 1) (.tup [.str "row", s, .int a, .int b])
  | tab {n : Nat} {es : List D} {q : D} (h : ∀ e ∈ es, Ef n e) (hl : es.length ≤ 4000) (hq : q ≠ .non → Sf n q) : Sf (n + 1) (.tup [.str "table", .tup es, q])
  | or {n : Nat} {ss : List D} (h : ∀ s ∈ ss, Sf n s) (hl : ss.length ≤ 16777216) : Sf (n + 1) (.tup [.str "or", .tup ss])
inductive Ef : Nat → D → Prop
  | bad {n : Nat} {l : List D} (h : l.length ≠ 3) : Ef n (.tup l)
  | ok {n : Nat} {k : Str} {s : D} {b : Bool} (hk : k.length ≤ 16777216) (h : Sf n s) : Ef n (.tup [.str k, s, .bl b])
end
theorem sf_ins {n : Nat} {d : D} (h : Sf n d) : isIns d = false := by cases h <;> rfl
theorem ef_ins {n : Nat} {d : D} (h : Ef n d) : isIns d = false := by cases h <;> rfl
/-! ## the package's looks at shapes -/
def S_is_shape (k : Nat) : VSp := fun args Q _ => ∃ (n : Nat) (d : D) (r : Nat) (i : Int), args = [.sh d, .sh (.int i)] ∧ i + r = 31 ∧ Sf n d ∧ n < k ∧ Q (.sh (.bl (isSh r d))) []
def S_is_entry (k : Nat) : VSp := fun args Q _ => ∃ (n : Nat) (d : D) (r : Nat) (i : Int), args = [.sh d, .sh (.int i)] ∧ i + r = 31 ∧ Ef n d ∧ n < k ∧ Q (.sh (.bl (isEn r d))) []
def S_is_table_shape (k : Nat) : VSp := fun args Q _ => ∃ (n : Nat) (es : List D) (q : D) (r : Nat) (i : Int), args = [.sh (.tup [.str "table", .tup es, q]), .sh (.int i)] ∧ i + (r + 1) = 31 ∧ (∀ e ∈ es, Ef n e) ∧ es.length ≤ 4000 ∧ (q ≠ .non → Sf n q) ∧ n < k ∧ Q (.sh (.bl (isSh (r + 1) (.tup [.str "table", .tup es, q])))) []
theorem at0s {α : Type} {x : α} {l : List α} : L2.atI (x :: l) 0 = some x := by
  have := atI_nat (xs := x :: l) (k := 0)
  simpa using this
theorem at1s {α : Type} {x y : α} {l : List α} : L2.atI (x :: y :: l) 1 = some y := by
  have := atI_nat (xs := x :: y :: l) (k := 1)
  simpa using this
theorem at2s {α : Type} {x y z : α} {l : List α} : L2.atI (x :: y :: z :: l) 2 = some z := by
  have := atI_nat (xs := x :: y :: z :: l) (k := 2)
  simpa using this
theorem at3s {α : Type} {x y z u : α} {l : List α} : L2.atI (x :: y :: z :: u :: l) 3 = some u := by
  have := atI_nat (xs := x :: y :: z :: u :: l) (k := 3)
  simpa using this
theorem pure_is_entry {k : Nat} : Pure (S_is_entry k) 2 2 (T_is_entry S_is_word (S_is_shape k)) := by
  rintro args QV EV aa1 aa2 ⟨n, d, r, i, rfl, hi, he, hk, hq⟩
  cases he with
  | bad h =>
    rename_i l
    have e : isEn r (.tup l) = false := by
      unfold isEn enOf
      split
      · rename_i heq
        cases heq
        simp at h
      · rfl
    rw [e] at hq
    simp [T_is_entry, padE]
    rw [if_neg (by omega)]
    exact hq
  | ok hkl hs =>
    rename_i key s b
    simp [T_is_entry, padE, at0s, at1s, at2s]
    refine clI ⟨key, rfl, hkl, ?_⟩
    simp
    have e : isEn r (.tup [.str key, s, .bl b]) = (isWord key && isSh r s) := rfl
    rw [e] at hq
    cases ek : isWord key with
    | false => simp; rw [ek] at hq; exact hq
    | true =>
      simp [at1s, sf_ins hs]
      refine clI ⟨n, s, r, i, rfl, hi, hs, hk, ?_⟩
      simp
      rw [ek] at hq
      cases es : isSh r s with
      | false => simp; rw [es] at hq; exact hq
      | true =>
        rw [es] at hq
        cases b <;> simp [at2s] <;> exact hq
end VL
set_option linter.all false
set_option maxRecDepth 100000
set_option maxHeartbeats 400000
namespace VL
open PySem PySem.Spec PyProof.Rows L2
def keyE (e : D) : Str := match e with
  | .tup (.str k :: _) => k
  | _ => ""
theorem isEn_form {r : Nat} {e : D} (h : isEn r e = true) : ∃ k s b, e = .tup [.str k, s, .bl b] ∧ isWord k = true ∧ isSh r s = true := by
  unfold isEn enOf at h
  split at h
  · rename_i k s b
    simp only [Bool.and_eq_true] at h
    exact ⟨k, s, b, rfl, h.1, h.2⟩
  · cases h
theorem keysT_map {r : Nat} : ∀ {es : List D}, (∀ e ∈ es, isEn r e = true) → keysT es = es.map keyE
  | [], _ => rfl
  | e :: es, h => by
    obtain ⟨k, s, b, rfl, _, _⟩ := isEn_form (h e (by simp))
    have ih := keysT_map (es := es) fun x hx => h x (by simp [hx])
    simp only [keysT, List.filterMap_cons, List.map_cons, keyE] at ih ⊢
    rw [← ih]
theorem eq_strs {l m : List Str} : vEq (.lst (l.map .str)) (.lst (m.map .str)) = some (.sh (.bl (decide (l = m)))) := by
  have : eqOk (.lst (l.map .str)) (.lst (m.map .str)) = true := by simp [eqOk, pl, pls0, dep, deps0]
  simp only [vEq, eqx, this, if_true, Option.map_some, deq, deqs0]
theorem pure_is_table_shape {k : Nat} : Pure (S_is_table_shape k) 2 4 (T_is_table_shape (S_is_entry k) (S_is_shape k)) := by
  rintro args QV EV aa1 aa2 ⟨n, es, q, r, i, rfl, hi, he, hl, hsq, hk, hq⟩
  rw [isSh_tab] at hq
  simp [T_is_table_shape, padE, at1s]
  refine bLc_map (s0 := .un) es id (fun e => .bl (isEn r e)) (by simp) (by omega) rfl (fun e hm Q hQ => ?_) ?_
  · simp [ef_ins (he e hm)]
    exact clI ⟨n, e, r, i + 1, rfl, by omega, he e hm, hk, by simpa using hQ⟩
  · simp [all_bls]
    by_cases hall : ∀ x ∈ es, isEn r x = true
    case neg =>
      have ha : es.all (isEn r) = false := by
        rw [Bool.eq_false_iff]; exact fun h => hall (List.all_eq_true.mp h)
      rw [ha] at hq
      rw [if_neg hall]
      exact hq
    case pos =>
      rw [List.all_eq_true.mpr hall, Bool.true_and] at hq
      rw [if_pos hall]
      simp [K_is_table_shape_2, at1s]
      refine bLc_map (s0 := .un) es id (fun e => .str (keyE e)) (by simp) (by omega) rfl (fun e hm Q hQ => ?_) ?_
      · obtain ⟨kk, s, b, rfl, _, _⟩ := isEn_form (hall e hm)
        simp [at0s]
        exact hQ
      · have e1 : (es.map fun e => D.str (keyE e)) = (keysT es).map .str := by rw [keysT_map hall, List.map_map]; rfl
        have hlk : (keysT es).length ≤ 4000 := by rw [keysT_map hall, List.length_map]; exact hl
        rw [e1]
        simp [K_is_table_shape_1, ss_strs hlk, eq_strs]
        cases hr : rising (keysT es) with
        | false =>
          rw [hr] at hq
          have hn : ¬ keysT es = sortS (once (keysT es)) := by simpa [rising] using hr
          rw [if_neg hn]
          exact hq
        | true =>
          rw [hr] at hq
          have hn : keysT es = sortS (once (keysT es)) := by simpa [rising] using hr
          rw [if_pos hn]
          rw [Bool.true_and] at hq
          by_cases hqn : q = .non
          · subst hqn
            simp [at2s]
            exact hq
          · have hs := hsq hqn
            have hnn : vIsN q .non = some (.sh (.bl false)) := by cases hs <;> rfl
            have hro : restOk r q = isSh r q := by cases hs <;> rfl
            rw [hro] at hq
            simp [at2s, sf_ins hs, hnn]
            exact clI ⟨n, q, r, i + 1, rfl, by omega, hs, hk, by simpa using hq⟩
inductive ShF (r : Nat) : D → Prop
  | one {w : Str} (h : w = "any" ∨ w = "none" ∨ w = "truth") : ShF r (.tup [.str w])
  | num {a b : Int} (h1 : -MOST ≤ a) (h2 : a ≤ b) (h3 : b ≤ MOST) : ShF r (.tup [.str "number", .int a, .int b])
  | word {a : Int} (h1 : 0 ≤ a) (h2 : a ≤ 60) : ShF r (.tup [.str "word", .int a])
  | row {s : D} {a b : Int} (h1 : 0 ≤ a) (h2 : a ≤ b) (h3 : b ≤ 1000000) (h : isSh r s = true) : ShF r (.tup [.str "row", s, .int a, .int b])
  | tab {es : List D} {q : D} (h1 : ∀ e ∈ es, isEn r e = true) (h2 : rising (keysT es) = true) (h3 : restOk r q = true) : ShF r (.tup [.str "table", .tup es, q])
  | or {ss : List D} (h : ∀ s ∈ ss, isSh r s = true) : ShF r (.tup [.str "or", .tup ss])
theorem sh_form {r : Nat} {d : D} (h : isSh (r + 1) d = true) : ShF r d := by
  have h : shOf (isSh r) d = true := h
  unfold shOf at h
  split at h
  · rename_i w
    simp only [Bool.or_eq_true, decide_eq_true_eq] at h
    exact .one (by rcases h with (h | h) | h <;> simp [h])
  · rename_i w a
    simp only [Bool.and_eq_true, decide_eq_true_eq] at h
    obtain ⟨rfl, h1, h2⟩ := h
    exact .word h1 h2
  · rename_i w ss
    simp only [Bool.and_eq_true, decide_eq_true_eq, List.all_eq_true] at h
    obtain ⟨rfl, h⟩ := h
    exact .or h
  · rename_i w a b
    simp only [Bool.and_eq_true, decide_eq_true_eq] at h
    obtain ⟨rfl, h1, h2, h3⟩ := h
    exact .num h1 h2 h3
  · rename_i w es q
    simp only [Bool.and_eq_true, decide_eq_true_eq] at h
    obtain ⟨rfl, h1, h2, h3⟩ := h
    exact .tab (List.all_eq_true.mp h1) h2 h3
  · rename_i w s a b
    simp only [Bool.and_eq_true, decide_eq_true_eq] at h
    obtain ⟨rfl, ⟨h1, h2, h3⟩, h4⟩ := h
    exact .row h1 h2 h3 h4
  · cases h
theorem sh_zero {d : D} : isSh 0 d = false := by unfold isSh; rfl
theorem sh_size {r : Nat} {w : Str} {l : List D} {o : Option Int} (h : isSh r (.tup (.str w :: l)) = true) (ho : (w, o) ∈ kt_SIZES) : o = some ((l.length : Int) + 1) := by
  cases r with
  | zero => rw [sh_zero] at h; cases h
  | succ r =>
    have h := sh_form h
    generalize hd : D.tup (.str w :: l) = d at h
    cases h with
    | one hw => cases hd; rcases hw with rfl | rfl | rfl <;> simp [kt_SIZES] at ho <;> simp [ho]
    | num => cases hd; simp [kt_SIZES] at ho; simp [ho]
    | word => cases hd; simp [kt_SIZES] at ho; simp [ho]
    | row => cases hd; simp [kt_SIZES] at ho; simp [ho]
    | tab => cases hd; simp [kt_SIZES] at ho; simp [ho]
    | or => cases hd; simp [kt_SIZES] at ho; simp [ho]
theorem pure_is_shape {k : Nat} : Pure (S_is_shape (k + 1)) 2 3 (T_is_shape (S_is_shape k) (S_is_table_shape k)) := by
  rintro args QV EV aa1 aa2 ⟨n, d, r, i, rfl, hi, hs, hk, hq⟩
  have z0 : r = 0 → ∀ d, isSh r d = false := fun e d => by subst e; exact sh_zero
  cases hs with
  | nil =>
    have e : isSh r (.tup []) = false := by cases r <;> rfl
    rw [e] at hq
    simp [T_is_shape, padE]
    exact hq
  | bad h hl =>
    rename_i n w l o
    have e : isSh r (.tup (.str w :: l)) = false := by
      cases hh : isSh r (.tup (.str w :: l)) with
      | false => rfl
      | true => exact absurd rfl (hl _ (sh_size hh h))
    rw [e] at hq
    simp [T_is_shape, padE, at0s]
    refine ⟨o, h, ?_⟩
    cases o with
    | none =>
      simp
      rw [if_neg (by omega)]
      exact hq
    | some z =>
      have := hl z rfl
      simp
      rw [if_neg (by omega)]
      exact hq
  | one h =>
    rename_i n w l
    have hkt : (w, some (1 : Int)) ∈ kt_SIZES := by rcases h with rfl | rfl | rfl <;> simp [kt_SIZES]
    simp [T_is_shape, padE, at0s]
    refine ⟨some 1, hkt, ?_⟩
    simp
    by_cases hl : l = []
    · subst hl
      simp
      by_cases hr : r = 0
      · rw [if_pos (by omega)]
        rw [z0 hr] at hq
        exact hq
      · rw [if_neg (by omega)]
        obtain ⟨r, rfl⟩ : ∃ j, r = j + 1 := ⟨r - 1, by omega⟩
        have e : isSh (r + 1) (.tup [.str w]) = true := by rcases h with rfl | rfl | rfl <;> simp [isSh, shOf]
        rw [e] at hq
        rcases h with rfl | rfl | rfl <;> simp [K_is_shape_5, K_is_shape_4, K_is_shape_3, K_is_shape_2, K_is_shape_1, at0s] <;> exact hq
    · have hl1 : l.length ≠ 0 := fun e => hl (List.length_eq_zero_iff.mp e)
      have e : isSh r (.tup (.str w :: l)) = false := by
        cases hh : isSh r (.tup (.str w :: l)) with
        | false => rfl
        | true => have := sh_size hh hkt; simp only [Option.some.injEq] at this; omega
      rw [e] at hq
      rw [if_neg (by omega)]
      exact hq
  | num =>
    rename_i n a b
    simp [T_is_shape, padE, at0s]
    refine ⟨some 3, by simp [kt_SIZES], ?_⟩
    simp
    by_cases hr : r = 0
    · rw [if_pos (by omega)]
      rw [z0 hr] at hq
      exact hq
    · rw [if_neg (by omega)]
      obtain ⟨r, rfl⟩ : ∃ j, r = j + 1 := ⟨r - 1, by omega⟩
      rw [isSh_num] at hq
      simp [K_is_shape_5, at0s, at1s, at2s]
      by_cases h1 : -999999999999999 ≤ a
      · rw [if_pos h1]
        by_cases h2 : a ≤ b
        · rw [if_pos h2]; simpa [MOST, h1, h2] using hq
        · rw [if_neg h2]; simpa [MOST, h1, h2] using hq
      · rw [if_neg h1]; simpa [MOST, h1] using hq
  | word =>
    rename_i n a
    simp [T_is_shape, padE, at0s]
    refine ⟨some 2, by simp [kt_SIZES], ?_⟩
    simp
    by_cases hr : r = 0
    · rw [if_pos (by omega)]
      rw [z0 hr] at hq
      exact hq
    · rw [if_neg (by omega)]
      obtain ⟨r, rfl⟩ : ∃ j, r = j + 1 := ⟨r - 1, by omega⟩
      rw [isSh_word] at hq
      simp [K_is_shape_5, K_is_shape_4, at0s, at1s]
      by_cases h1 : 0 ≤ a
      · rw [if_pos h1]; simpa [h1] using hq
      · rw [if_neg h1]; simpa [h1] using hq
  | row h =>
    rename_i n s a b
    simp [T_is_shape, padE, at0s]
    refine ⟨some 4, by simp [kt_SIZES], ?_⟩
    simp
    by_cases hr : r = 0
    · rw [if_pos (by omega)]
      rw [z0 hr] at hq
      exact hq
    · rw [if_neg (by omega)]
      obtain ⟨r, rfl⟩ : ∃ j, r = j + 1 := ⟨r - 1, by omega⟩
      rw [isSh_row] at hq
      simp [K_is_shape_5, K_is_shape_4, K_is_shape_3, at0s, at1s, at2s, at3s]
      by_cases h1 : 0 ≤ a
      · rw [if_pos h1]
        by_cases h2 : a ≤ b
        · rw [if_pos h2]
          by_cases h3 : b ≤ 1000000
          · rw [if_pos h3]
            refine ⟨sf_ins h, clI ⟨n, s, r, i + 1, rfl, by omega, h, by omega, ?_⟩⟩
            simpa [h1, h2, h3] using hq
          · rw [if_neg h3]; simpa [h1, h2, h3] using hq
        · rw [if_neg h2]; simpa [h1, h2] using hq
      · rw [if_neg h1]; simpa [h1] using hq
  | tab h hl hqq =>
    rename_i n es q
    simp [T_is_shape, padE, at0s]
    refine ⟨some 3, by simp [kt_SIZES], ?_⟩
    simp
    by_cases hr : r = 0
    · rw [if_pos (by omega)]
      rw [z0 hr] at hq
      exact hq
    · rw [if_neg (by omega)]
      obtain ⟨r, rfl⟩ : ∃ j, r = j + 1 := ⟨r - 1, by omega⟩
      simp [K_is_shape_5, K_is_shape_4, K_is_shape_3, K_is_shape_2, at0s]
      exact clI ⟨n, es, q, r, i, rfl, by omega, h, hl, hqq, by omega, by simpa using hq⟩
  | or h hl =>
    rename_i n ss
    simp [T_is_shape, padE, at0s]
    refine ⟨some 2, by simp [kt_SIZES], ?_⟩
    simp
    by_cases hr : r = 0
    · rw [if_pos (by omega)]
      rw [z0 hr] at hq
      exact hq
    · rw [if_neg (by omega)]
      obtain ⟨r, rfl⟩ : ∃ j, r = j + 1 := ⟨r - 1, by omega⟩
      rw [isSh_or] at hq
      simp [K_is_shape_5, K_is_shape_4, K_is_shape_3, K_is_shape_2, K_is_shape_1, at0s, at1s]
      refine bLc_map (s0 := .un) ss id (fun s => .bl (isSh r s)) (by simp) hl rfl (fun s hm Q hQ => ?_) ?_
      · simp [sf_ins (h s hm)]
        exact clI ⟨n, s, r, i + 1, rfl, by omega, h s hm, by omega, by simpa using hQ⟩
      · simp [all_bls]
        exact hq
end VL
set_option linter.all false
set_option maxRecDepth 100000
set_option maxHeartbeats 400000
namespace VL
open PySem PySem.Spec PyProof.Rows L2
def S_look_shape : VSp := fun args Q E => ∃ (n : Nat) (d : D), args = [.sh d] ∧ Sf n d ∧ n < 40 ∧ (isSh 31 d = true → Q (.sh .non) []) ∧ (isSh 31 d = false → E "BadThing" [] [])
theorem pure_look_shape : Pure S_look_shape 1 1 (T_look_shape (S_is_shape 40)) := by
  rintro args QV EV aa1 aa2 ⟨n, d, rfl, hs, hn, h1, h2⟩
  simp [T_look_shape, padE, sf_ins hs]
  refine clI ⟨n, d, 31, 0, rfl, by omega, hs, hn, ?_⟩
  cases e : isSh 31 d with
  | true => simp; exact h1 e
  | false => simp; exact h2 e
/-! ## what fits -/
def tabFit (f : D → D → Bool) (es : List D) (q : D) (kvs : List (Key × D)) : Bool :=
  (es.all fun e => match e with
    | .tup [.str k, s, .bl b] => (match valD kvs (.inr k) with
      | some x => f s x
      | none => !b)
    | _ => false) && kvs.all fun p => decide (keyS p.1 ∈ keysT es) || (match q with
      | .non => false
      | q => f q p.2)
def fitOf (f : D → D → Bool) (s t : D) : Bool := match s with
  | .tup [.str w] => decide (w = "any") || decide (kindD t = w)
  | .tup [.str _, .int a] => (match t with
    | .str z => decide ((z.length : Int) ≤ a)
    | _ => false)
  | .tup [.str _, .tup ss] => ss.any fun s => f s t
  | .tup [.str _, .int a, .int b] => (match t with
    | .int i => decide (a ≤ i) && decide (i ≤ b)
    | _ => false)
  | .tup [.str _, .tup es, q] => (match t with
    | .dct kvs => tabFit f es q kvs
    | _ => false)
  | .tup [.str _, s, .int a, .int b] => (match t with
    | .lst ds => (decide (a ≤ ds.length) && decide ((ds.length : Int) ≤ b)) && ds.all (f s)
    | _ => false)
  | _ => false
def fits' : Nat → D → D → Bool
  | 0, _, _ => false
  | r + 1, s, t => fitOf (fits' r) s t
theorem bLc_filter {α : Type} {ds : List D} {i : Nat} {tt : VTT} {env : En} {s0 : Sv} {Q : Sv → En → Prop} {E : XQ} (l : List α) (f : α → D) (p : α → Bool) (hds : ds = l.map f) (hl : l.length ≤ 16777216) (h0 : env[i]? = some s0)
    (hstep : ∀ x ∈ l, ∀ Q : Bool → En → Prop, Q (p x) (env.set i (.sh (f x))) → tt (env.set i (.sh (f x))) Q (fun _ _ _ => False)) (te : VTE) (hte : ∀ x ∈ l, ∀ Q : D → En → Prop, Q (f x) (env.set i (.sh (f x))) → te (env.set i (.sh (f x))) Q (fun _ _ _ => False))
    (hq : Q (.ow (.lst ((l.filter p).map f))) (env.set i (keepS s0))) : bLc ds i tt te env Q E := by
  subst hds
  refine ⟨by simpa using hl, s0, h0, fun n acc e => e = env.set i (keepS s0) ∧ acc = ((l.take n).filter p).map f, ⟨rfl, rfl⟩, ?_, ?_⟩
  · rintro n d acc e hd ⟨rfl, rfl⟩ he
    rw [List.getElem?_map, Option.map_eq_some_iff] at hd
    obtain ⟨x, hx, rfl⟩ := hd
    rw [List.set_set]
    refine hstep x (List.mem_of_getElem? hx) _ ?_
    cases e : p x with
    | true =>
      refine hte x (List.mem_of_getElem? hx) _ ⟨by rw [List.set_set], ?_⟩
      rw [List.take_add_one, hx]; simp [e]
    | false =>
      simp only [Bool.false_eq_true, if_false]
      refine ⟨by rw [List.set_set], ?_⟩
      rw [List.take_add_one, hx]; simp [e]
  · rintro acc e ⟨rfl, rfl⟩ he
    simpa using hq
def S_is_fit (k : Nat) : VSp := fun args Q _ => ∃ (n r m : Nat) (s t : D), args = [.sh s, .sh t] ∧ isSh r s = true ∧ Sf m s ∧ dat n t = true ∧ r < k ∧ Q (.sh (.bl (fits' r s t))) []
def S_is_table_fit (k : Nat) : VSp := fun args Q _ => ∃ (n r m : Nat) (es : List D) (q : D) (kvs : List (Key × D)), args = [.sh (.tup [.str "table", .tup es, q]), .sh (.dct kvs)] ∧ (∀ e ∈ es, isEn r e = true ∧ Ef m e) ∧ (q ≠ .non → isSh r q = true ∧ Sf m q) ∧ dat (n + 1) (.dct kvs) = true ∧ es.length ≤ 4000 ∧ r < k ∧ Q (.sh (.bl (tabFit (fits' r) es q kvs))) []
theorem any_bls {α : Type} (l : List α) (p : α → Bool) : vAny [.lst (l.map fun x => .bl (p x))] = some (.sh (.bl (l.any p))) := by
  simp only [vAny, dls_lst, Option.bind_some, asBls_mapf, Option.map_some]
  rw [List.any_map]; rfl
def fitE (f : D → D → Bool) (kvs : List (Key × D)) (e : D) : Bool := match e with
  | .tup [.str k, s, .bl b] => (match valD kvs (.inr k) with
    | some x => f s x
    | none => !b)
  | _ => false
def fitR (f : D → D → Bool) (es : List D) (q : D) (p : Key × D) : Bool := decide (keyS p.1 ∈ keysT es) || (match q with
  | .non => false
  | q => f q p.2)
theorem tabFit_eq {f : D → D → Bool} {es : List D} {q : D} {kvs : List (Key × D)} : tabFit f es q kvs = (es.all (fitE f kvs) && kvs.all (fitR f es q)) := rfl
theorem pure_is_table_fit {k : Nat} : Pure (S_is_table_fit k) 2 8 (T_is_table_fit (S_is_fit k)) := by
  rintro args QV EV aa1 aa2 ⟨n, r, m, es, q, kvs, rfl, he, hsq, hd, hl, hk, hq⟩
  obtain ⟨hl2, hx, nd⟩ := dat_dct.mp hd
  have hen : ∀ e ∈ es, isEn r e = true := fun e h => (he e h).1
  rw [tabFit_eq] at hq
  simp [T_is_table_fit, padE, at1s]
  refine bLc_map (s0 := .un) es id (fun e => .str (keyE e)) (by simp) (by omega) rfl (fun e hm Q hQ => ?_) ?_
  · obtain ⟨kk, s, b, rfl, _, _⟩ := isEn_form (hen e hm)
    simp [at0s]
    exact hQ
  · have e1 : (es.map fun e => D.str (keyE e)) = (keysT es).map .str := by rw [keysT_map hen, List.map_map]; rfl
    rw [e1]
    simp [K_is_table_fit_3, at1s]
    refine ⟨fun j env => ∃ s4 s5 s6 : Sv, env = [.sh (.tup [.str "table", .tup es, q]), .sh (.dct kvs), .sh (.lst ((keysT es).map .str)), .un, s4, s5, s6, .un] ∧ (es.take j).all (fitE (fits' r) kvs) = true, ⟨_, _, _, rfl, by simp⟩, ?_, ?_⟩
    · rintro j e env hj ⟨s4, s5, s6, rfl, hok⟩
      have hm := List.mem_of_getElem? hj
      obtain ⟨kk, s, b, rfl, hw, hs⟩ := isEn_form (hen e hm)
      have hsf : Sf m s := by
        have := (he _ hm).2
        cases this with
        | bad h => simp at h
        | ok _ h => exact h
      have nxt : fitE (fits' r) kvs (.tup [.str kk, s, .bl b]) = true → (es.take (j + 1)).all (fitE (fits' r) kvs) = true := fun h => by
        rw [List.take_add_one, hj, List.all_append, hok]
        simp [h]
      have bad : fitE (fits' r) kvs (.tup [.str kk, s, .bl b]) = false → QV (.sh (.bl false)) [] := fun h => by
        have : es.all (fitE (fits' r) kvs) = false := by
          rw [Bool.eq_false_iff]; intro hh
          rw [List.all_eq_true.mp hh _ hm] at h; cases h
        rw [this] at hq
        simpa using hq
      cases hv : valD kvs (.inr kk) with
      | none =>
        have hf : fitE (fits' r) kvs (.tup [.str kk, s, .bl b]) = !b := by simp only [fitE, hv]
        have h1 : vIn (.str kk) (.dct kvs) = some (.sh (.bl false)) := by simp [vIn, isInD, keyD, hv]
        have h2 : vNotIn (.str kk) (.dct kvs) = some (.sh (.bl true)) := by simp [vNotIn, isInD, keyD, hv]
        simp [sf_ins hsf, h1, h2]
        cases b with
        | true => simp; exact bad (by rw [hf]; rfl)
        | false => simp; exact List.all_eq_true.mp (nxt (by rw [hf]; rfl))
      | some x =>
        have hf : fitE (fits' r) kvs (.tup [.str kk, s, .bl b]) = fits' r s x := by simp only [fitE, hv]
        have h1 : vIn (.str kk) (.dct kvs) = some (.sh (.bl true)) := by simp [vIn, isInD, keyD, hv]
        have h2 : vNotIn (.str kk) (.dct kvs) = some (.sh (.bl false)) := by simp [vNotIn, isInD, keyD, hv]
        have dx : dat n x = true := (hx _ (valD_mem hv)).2
        simp [sf_ins hsf, h1, h2, hv]
        refine ⟨dat_ins dx, clI ⟨n, r, m, s, x, rfl, hs, hsf, dx, hk, ?_⟩⟩
        cases ef : fits' r s x with
        | true => simp; exact List.all_eq_true.mp (nxt (by rw [hf]; exact ef))
        | false => simp; exact bad (by rw [hf]; exact ef)
    · rintro env ⟨s4, s5, s6, rfl, hok⟩
      rw [List.take_length] at hok
      rw [hok, Bool.true_and] at hq
      simp [K_is_table_fit_2]
      refine ⟨keys_fit hx, ?_⟩
      rw [vwD_keys hx]
      refine bLc_filter (s0 := s4) (keysOf kvs) (fun z => .str z) (fun z => !decide (z ∈ keysT es)) rfl (by rw [keys_len]; omega) rfl (fun z hz Q hQ => ?_) _ (fun z hz Q hQ => ?_) ?_
      · simp [notIn_strs]
        simpa using hQ
      · simp; exact hQ
      · obtain ⟨L, hL⟩ : ∃ L, L = (keysOf kvs).filter (fun z => !decide (z ∈ keysT es)) := ⟨_, rfl⟩
        have hLl : L.length ≤ kvs.length := by rw [hL, ← keys_len]; exact List.length_filter_le _ _
        rw [← hL]
        simp [K_is_table_fit_1]
        have fin : ∀ g : Str → Bool, (∀ p ∈ kvs, keyS p.1 ∉ keysT es → g (keyS p.1) = fitR (fits' r) es q p) → QV (.sh (.bl (L.all g))) [] := fun g hg => by
          have e2 : L.all g = kvs.all (fitR (fits' r) es q) := by
            rw [Bool.eq_iff_iff, List.all_eq_true, List.all_eq_true]
            constructor
            · intro h p hp
              by_cases hk : keyS p.1 ∈ keysT es
              · simp [fitR, hk]
              · rw [← hg p hp hk]
                exact h _ (by rw [hL, List.mem_filter]; exact ⟨List.mem_map.mpr ⟨p, hp, rfl⟩, by simp [hk]⟩)
            · intro h z hz
              rw [hL, List.mem_filter] at hz
              obtain ⟨p, hp, rfl⟩ := List.mem_map.mp hz.1
              rw [hg p hp (by simpa using hz.2)]
              exact h p hp
          rw [e2]; exact hq
        have vk : ∀ p ∈ kvs, valD kvs (.inr (keyS p.1)) = some p.2 := fun p hp => by
          obtain ⟨k', d'⟩ := p
          have := strKey_inr (hx _ hp).1
          simp only at this ⊢
          rw [← this]; exact valD_of hp nd
        by_cases hqn : q = .non
        · subst hqn
          refine bLc_map (s0 := keepS s4) L (fun z => .str z) (fun z => .bl false) rfl (by omega) rfl (fun z hz Q hQ => ?_) ?_
          · simp [at2s]; exact hQ
          · have := all_bls L (fun _ => false)
            simp [this]
            exact fin (fun _ => false) fun p hp hk => by simp [fitR, hk]
        · obtain ⟨q1, q2⟩ := hsq hqn
          have hnn : vNotN q .non = some (.sh (.bl true)) := by cases q2 <;> rfl
          have hfr : ∀ p, keyS p.1 ∉ keysT es → fitR (fits' r) es q p = fits' r q p.2 := fun p hk => by
            cases q2 <;> simp [fitR, hk]
          refine bLc_map (s0 := keepS s4) L (fun z => .str z) (fun z => .bl (fits' r q ((valD kvs (.inr z)).getD .non))) rfl (by omega) rfl (fun z hz Q hQ => ?_) ?_
          · rw [hL, List.mem_filter] at hz
            obtain ⟨p, hp, rfl⟩ := List.mem_map.mp hz.1
            have dx := (hx p hp).2
            simp [at2s, hnn, sf_ins q2, vk p hp, dat_ins dx]
            refine clI ⟨n, r, m, q, p.2, rfl, q1, q2, dx, hk, ?_⟩
            rw [vk p hp] at hQ
            simpa using hQ
          · have := all_bls L (fun z => fits' r q ((valD kvs (.inr z)).getD .non))
            simp [this]
            exact fin (fun z => fits' r q ((valD kvs (.inr z)).getD .non)) fun p hp hk => by rw [hfr p hk, vk p hp]; rfl
end VL
set_option linter.all false
set_option maxRecDepth 100000
set_option maxHeartbeats 400000
namespace VL
open PySem PySem.Spec PyProof.Rows L2
theorem sf_row {m : Nat} {s : D} {a b : Int} (h : Sf m (.tup [.str "row", s, .int a, .int b])) : ∃ m', Sf m' s := by
  generalize hd : D.tup [.str "row", s, .int a, .int b] = d at h
  cases h with
  | nil => cases hd
  | one h => cases hd; rcases h with h | h | h <;> simp at h
  | bad h hl => cases hd; simp [kt_SIZES] at h; subst h; exact absurd rfl (hl 4 rfl)
  | num => cases hd
  | word => cases hd
  | row h => cases hd; exact ⟨_, h⟩
  | tab => cases hd
  | or => cases hd
theorem sf_or {m : Nat} {ss : List D} (h : Sf m (.tup [.str "or", .tup ss])) : ss.length ≤ 16777216 ∧ ∃ m', ∀ s ∈ ss, Sf m' s := by
  generalize hd : D.tup [.str "or", .tup ss] = d at h
  cases h with
  | nil => cases hd
  | one h => cases hd; rcases h with h | h | h <;> simp at h
  | bad h hl => cases hd; simp [kt_SIZES] at h; subst h; exact absurd rfl (hl 2 rfl)
  | num => cases hd
  | word => cases hd
  | row h => cases hd
  | tab => cases hd
  | or h hl => cases hd; exact ⟨hl, _, h⟩
theorem sf_tab {m : Nat} {es : List D} {q : D} (h : Sf m (.tup [.str "table", .tup es, q])) : es.length ≤ 4000 ∧ ∃ m', (∀ e ∈ es, Ef m' e) ∧ (q ≠ .non → Sf m' q) := by
  generalize hd : D.tup [.str "table", .tup es, q] = d at h
  cases h with
  | nil => cases hd
  | one h => cases hd; rcases h with h | h | h <;> simp at h
  | bad h hl => cases hd; simp [kt_SIZES] at h; subst h; exact absurd rfl (hl 3 rfl)
  | num => cases hd
  | word => cases hd
  | row h => cases hd
  | tab h hl hq => cases hd; exact ⟨hl, _, h, hq⟩
  | or h hl => cases hd
theorem rest_sh {r : Nat} {q : D} (h : restOk r q = true) (hq : q ≠ .non) : isSh r q = true := by
  cases q <;> first | exact absurd rfl hq | exact h
theorem fit_row {f : D → D → Bool} {w : Str} {s : D} {a b : Int} {t : D} : fitOf f (.tup [.str w, s, .int a, .int b]) t = (match t with
    | .lst ds => (decide (a ≤ ds.length) && decide ((ds.length : Int) ≤ b)) && ds.all (f s)
    | _ => false) := by cases s <;> rfl
theorem fit_tab {f : D → D → Bool} {w : Str} {es : List D} {q : D} {t : D} : fitOf f (.tup [.str w, .tup es, q]) t = (match t with
    | .dct kvs => tabFit f es q kvs
    | _ => false) := by cases q <;> rfl
theorem kind_int {n : Nat} {a : D} (ha : dat n a = true) (h : kindD a = "number") : ∃ i, a = .int i := by
  rcases dat_cases ha with rfl | ⟨x, rfl⟩ | ⟨x, rfl⟩ | ⟨x, rfl, _⟩ | ⟨m, ds, rfl, rfl, hl, hx⟩ | ⟨m, kvs, rfl, rfl, hl, hx, nd⟩ <;> simp at h
  exact ⟨x, rfl⟩
theorem kind_wd {n : Nat} {a : D} (ha : dat n a = true) (h : kindD a = "word") : ∃ z, a = .str z := by
  rcases dat_cases ha with rfl | ⟨x, rfl⟩ | ⟨x, rfl⟩ | ⟨x, rfl, _⟩ | ⟨m, ds, rfl, rfl, hl, hx⟩ | ⟨m, kvs, rfl, rfl, hl, hx, nd⟩ <;> simp at h
  exact ⟨x, rfl⟩
theorem pure_is_fit {k : Nat} : Pure (S_is_fit (k + 1)) 2 4 (T_is_fit (S_is_fit k) S_kind_of (S_is_table_fit k)) := by
  rintro args QV EV aa1 aa2 ⟨n, r, m, s, t, rfl, hs, sf, ht, hk, hq⟩
  have ti := dat_ins ht
  have tb := dat_basic ht
  cases r with
  | zero => rw [sh_zero] at hs; cases hs
  | succ r =>
    replace hq : QV (.sh (.bl (fitOf (fits' r) s t))) [] := hq
    cases sh_form hs with
    | one h =>
      rename_i w
      simp [T_is_fit, padE, at0s, K_is_fit_7]
      rcases h with rfl | rfl | rfl
      · simpa [fitOf] using hq
      · simp [K_is_fit_6, K_is_fit_5, ti]
        refine clI ⟨t, rfl, tb, ?_⟩
        by_cases hkd : kindD t = "none"
        · simp [hkd, K_is_fit_4, K_is_fit_3, K_is_fit_2, K_is_fit_1]
          simpa [fitOf, hkd] using hq
        · simp [hkd]
          simpa [fitOf, hkd] using hq
      · simp [K_is_fit_6, K_is_fit_5, ti]
        refine clI ⟨t, rfl, tb, ?_⟩
        by_cases hkd : kindD t = "truth"
        · simp [hkd, K_is_fit_4, K_is_fit_3, K_is_fit_2, K_is_fit_1]
          simpa [fitOf, hkd] using hq
        · simp [hkd]
          simpa [fitOf, hkd] using hq
    | num h1 h2 h3 =>
      rename_i a b
      simp [T_is_fit, padE, at0s, K_is_fit_7, K_is_fit_6, K_is_fit_5, ti]
      refine clI ⟨t, rfl, tb, ?_⟩
      by_cases hkd : kindD t = "number"
      · obtain ⟨i, rfl⟩ := kind_int ht hkd
        simp [K_is_fit_4, at1s, at2s]
        by_cases hai : a ≤ i
        · rw [if_pos hai]; simpa [fitOf, hai] using hq
        · rw [if_neg hai]; simpa [fitOf, hai] using hq
      · simp [hkd]
        have : fitOf (fits' r) (.tup [.str "number", .int a, .int b]) t = false := by cases t <;> first | rfl | (exact absurd rfl hkd) | (simp [dat] at ht)
        rw [this] at hq; exact hq
    | word h1 h2 =>
      rename_i a
      simp [T_is_fit, padE, at0s, K_is_fit_7, K_is_fit_6, K_is_fit_5, ti]
      refine clI ⟨t, rfl, tb, ?_⟩
      by_cases hkd : kindD t = "word"
      · obtain ⟨z, rfl⟩ := kind_wd ht hkd
        simp [K_is_fit_4, K_is_fit_3, at1s]
        simpa [fitOf] using hq
      · simp [hkd]
        have : fitOf (fits' r) (.tup [.str "word", .int a]) t = false := by cases t <;> first | rfl | (exact absurd rfl hkd) | (simp [dat] at ht)
        rw [this] at hq; exact hq
    | row h1 h2 h3 h =>
      rename_i s' a b
      obtain ⟨m', sf'⟩ := sf_row sf
      simp [T_is_fit, padE, at0s, K_is_fit_7, K_is_fit_6, K_is_fit_5, ti]
      refine clI ⟨t, rfl, tb, ?_⟩
      by_cases hkd : kindD t = "row"
      · obtain ⟨n', ds, rfl, rfl, hl, hx⟩ := kind_row ht hkd
        replace hq : QV (.sh (.bl ((decide (a ≤ ds.length) && decide ((ds.length : Int) ≤ b)) && ds.all (fits' r s')))) [] := by rw [fit_row] at hq; exact hq
        simp [K_is_fit_4, K_is_fit_3, K_is_fit_2, at1s, at2s, at3s]
        by_cases ha : a ≤ (ds.length : Int)
        · rw [if_pos ha]
          by_cases hb : (ds.length : Int) ≤ b
          · rw [if_pos hb]
            refine bLc_map (s0 := .un) ds id (fun x => .bl (fits' r s' x)) (by simp) hl rfl (fun x hm Q hQ => ?_) ?_
            · simp [at1s, sf_ins sf', dat_ins (hx x hm)]
              exact clI (S := S_is_fit k) ⟨n', r, m', s', x, rfl, h, sf', hx x hm, by omega, by simpa using hQ⟩
            · simp [all_bls]
              simpa [ha, hb] using hq
          · rw [if_neg hb]; simpa [ha, hb] using hq
        · rw [if_neg ha]; simpa [ha] using hq
      · simp [hkd]
        have : fitOf (fits' r) (.tup [.str "row", s', .int a, .int b]) t = false := by rw [fit_row]; cases t <;> first | rfl | (exact absurd rfl hkd) | (simp [dat] at ht)
        rw [this] at hq; exact hq
    | tab h1 h2 h3 =>
      rename_i es q
      obtain ⟨hl, m', e1, e2⟩ := sf_tab sf
      simp [T_is_fit, padE, at0s, K_is_fit_7, K_is_fit_6, K_is_fit_5, ti]
      refine clI ⟨t, rfl, tb, ?_⟩
      by_cases hkd : kindD t = "table"
      · obtain ⟨n', kvs, rfl, rfl, hl2, hx, nd⟩ := kind_table ht hkd
        replace hq : QV (.sh (.bl (tabFit (fits' r) es q kvs))) [] := by rw [fit_tab] at hq; exact hq
        simp [K_is_fit_4, K_is_fit_3, K_is_fit_2, K_is_fit_1]
        exact clI ⟨n', r, m', es, q, kvs, rfl, fun e hm => ⟨h1 e hm, e1 e hm⟩, fun hqn => ⟨rest_sh h3 hqn, e2 hqn⟩, ht, hl, by omega, by simpa using hq⟩
      · simp [hkd]
        have : fitOf (fits' r) (.tup [.str "table", .tup es, q]) t = false := by rw [fit_tab]; cases t <;> first | rfl | (exact absurd rfl hkd) | (simp [dat] at ht)
        rw [this] at hq; exact hq
    | or h =>
      rename_i ss
      obtain ⟨hl, m', sf'⟩ := sf_or sf
      replace hq : QV (.sh (.bl (ss.any fun s => fits' r s t))) [] := hq
      simp [T_is_fit, padE, at0s, K_is_fit_7, K_is_fit_6, at1s]
      refine bLc_map (s0 := .un) ss id (fun s => .bl (fits' r s t)) (by simp) hl rfl (fun s hm Q hQ => ?_) ?_
      · simp [sf_ins (sf' s hm), ti]
        exact clI ⟨n, r, m', s, t, rfl, h s hm, sf' s hm, ht, by omega, by simpa using hQ⟩
      · simp [any_bls]
        exact hq
def S_fits_shape : VSp := fun args Q E => ∃ (n m : Nat) (s t : D), args = [.sh s, .sh t] ∧ Sf m s ∧ m < 40 ∧ dat n t = true ∧ (isSh 31 s = false → E "BadThing" [] []) ∧ (isSh 31 s = true → isTh 12 t = false → E "BadThing" [] []) ∧ (isSh 31 s = true → isTh 12 t = true → Q (.sh (.bl (fits' 31 s t))) [])
theorem pure_fits_shape : Pure S_fits_shape 2 2 (T_fits_shape S_look_shape S_look_thing (S_is_fit 40)) := by
  rintro args QV EV aa1 aa2 ⟨n, m, s, t, rfl, sf, hm, ht, h1, h2, h3⟩
  simp [T_fits_shape, padE, sf_ins sf]
  refine clI ⟨m, s, rfl, sf, hm, fun e => ?_, fun e => by simpa using h1 e⟩
  simp [K_fits_shape_2, dat_ins ht]
  refine clI ⟨n, t, rfl, ht, fun e2 => ?_, fun e2 => by simpa using h2 e e2⟩
  simp [K_fits_shape_1, sf_ins sf, dat_ins ht]
  exact clI ⟨n, 31, m, s, t, rfl, e, sf, ht, by omega, by simpa using h3 e e2⟩
end VL
set_option linter.all false
set_option maxRecDepth 100000
set_option maxHeartbeats 400000
namespace VL
open PySem PySem.Spec PyProof.Rows L2
/-! ## the law's own look -/
def shE (e : D) : D := match e with
  | .tup [_, s, _] => s
  | _ => .non
def entK (e : D) : Key × D := (.inr (keyE e), shE e)
def missE (kvs : List (Key × D)) (e : D) : Bool := match e with
  | .tup [.str k, _, .bl b] => b && (valD kvs (.inr k)).isNone
  | _ => false
def pairL (f : D → D → Bool) (es : List D) (q : D) (p : Key × D) : Bool := match valD (es.map entK) p.1 with
  | some s => f s p.2
  | none => (match q with
    | .non => false
    | q => f q p.2)
theorem rising_nd {l : List Str} (h : rising l = true) : l.Nodup := by
  have h : l = sortS (once l) := by simpa [rising] using h
  rw [h]
  exact (sortS_perm _).nodup_iff.mpr once_nd
theorem ent_nd {r : Nat} {es : List D} (h : ∀ e ∈ es, isEn r e = true) (hr : rising (keysT es) = true) : ((es.map entK).map (·.1)).Nodup := by
  have := rising_nd hr
  rw [keysT_map h] at this
  rw [List.map_map, show ((fun x : Key × D => x.1) ∘ entK) = (Sum.inr ∘ keyE) from rfl, ← List.map_map]
  exact List.Pairwise.map _ (fun a b hab e => hab (Sum.inr.inj e)) this
theorem tab_miss {r : Nat} {f : D → D → Bool} {es : List D} {q : D} {kvs : List (Key × D)} {e : D} (hm : e ∈ es) (h : missE kvs e = true) : tabFit f es q kvs = false := by
  have : fitE f kvs e = false := by
    unfold missE at h
    split at h
    · simp only [Bool.and_eq_true, Option.isNone_iff_eq_none] at h
      simp [fitE, h.1, h.2]
    · cases h
  rw [tabFit_eq]
  have : es.all (fitE f kvs) = false := by
    rw [Bool.eq_false_iff]; intro hh
    rw [List.all_eq_true.mp hh _ hm] at this; cases this
  rw [this]; rfl
theorem pair_in {r : Nat} {f : D → D → Bool} {es : List D} {q : D} {k : Str} {s x : D} {b : Bool} (h : ∀ e ∈ es, isEn r e = true) (hr : rising (keysT es) = true) (hm : D.tup [.str k, s, .bl b] ∈ es) : pairL f es q (.inr k, x) = f s x := by
  have : valD (es.map entK) (.inr k) = some s := valD_of (List.mem_map.mpr ⟨_, hm, rfl⟩) (ent_nd h hr)
  simp [pairL, this]
theorem pair_out {r : Nat} {f : D → D → Bool} {es : List D} {q : D} {k : Str} {x : D} (h : ∀ e ∈ es, isEn r e = true) (hm : k ∉ keysT es) : pairL f es q (.inr k, x) = fitR f es q (.inr k, x) := by
  have : valD (es.map entK) (.inr k) = none := by
    refine valD_none fun p hp e => hm ?_
    obtain ⟨y, hy, rfl⟩ := List.mem_map.mp hp
    rw [keysT_map h]
    simp only [entK, Sum.inr.injEq] at e
    exact List.mem_map.mpr ⟨y, hy, e⟩
  simp only [pairL, this, fitR, keyS, hm, decide_false, Bool.false_or]
  all_goals (cases q <;> rfl)
theorem pair_val {r : Nat} {es : List D} {k : Str} (h : ∀ e ∈ es, isEn r e = true) : k ∈ keysT es ↔ ∃ s b, D.tup [.str k, s, .bl b] ∈ es := by
  rw [keysT_map h]
  constructor
  · intro hk
    obtain ⟨e, he, rfl⟩ := List.mem_map.mp hk
    obtain ⟨k', s, b, rfl, _, _⟩ := isEn_form (h e he)
    exact ⟨s, b, he⟩
  · rintro ⟨s, b, he⟩
    exact List.mem_map.mpr ⟨_, he, rfl⟩
theorem tab_law {r : Nat} {f : D → D → Bool} {es : List D} {q : D} {kvs : List (Key × D)} (h : ∀ e ∈ es, isEn r e = true) (hr : rising (keysT es) = true)
    (hx : ∀ p ∈ kvs, strKey p.1 = true) (nd : (kvs.map (·.1)).Nodup) (hmiss : ∀ e ∈ es, missE kvs e = false) : tabFit f es q kvs = kvs.all (pairL f es q) := by
  rw [tabFit_eq, Bool.eq_iff_iff, Bool.and_eq_true, List.all_eq_true, List.all_eq_true, List.all_eq_true]
  constructor
  · rintro ⟨h1, h2⟩ ⟨k, x⟩ hp
    have e := strKey_inr (hx _ hp)
    simp only at e
    generalize keyS k = z at e
    subst e
    by_cases hz : z ∈ keysT es
    · obtain ⟨s, b, hm⟩ := (pair_val h).mp hz
      rw [pair_in h hr hm]
      have := h1 _ hm
      simp only [fitE, valD_of hp nd] at this
      exact this
    · rw [pair_out h hz]; exact h2 _ hp
  · intro h3
    refine ⟨fun e he => ?_, fun ⟨k, x⟩ hp => ?_⟩
    · obtain ⟨k, s, b, rfl, _, _⟩ := isEn_form (h e he)
      cases hv : valD kvs (.inr k) with
      | none =>
        have := hmiss _ he
        simp only [missE, hv, Option.isNone_none, Bool.and_true] at this
        simp only [fitE, hv, this, Bool.not_false]
      | some x =>
        have := h3 _ (valD_mem hv)
        rw [pair_in h hr he] at this
        simp only [fitE, hv, this]
    · have e := strKey_inr (hx _ hp)
      simp only at e
      generalize keyS k = z at e
      subst e
      by_cases hz : z ∈ keysT es
      · simp [fitR, hz, keyS]
      · rw [← pair_out h hz]; exact h3 _ hp
theorem kind_lk {n : Nat} {t : D} (h : dat n t = true) : L2.atI [D.str "none", .str "truth", .str "number", .str "word", .str "row", .str "table"] (lkd t) = some (.str (kindD t)) := by
  rcases dat_cases h with rfl | ⟨b, rfl⟩ | ⟨i, rfl⟩ | ⟨z, rfl, hz⟩ | ⟨m, ds, rfl, rfl, hl, hx⟩ | ⟨m, kvs, rfl, rfl, hl, hx, nd⟩ <;> rfl
def S__law_fits (k : Nat) : VSp := fun args Q _ => ∃ (n r m : Nat) (s t : D), args = [.sh s, .sh t] ∧ isSh r s = true ∧ Sf m s ∧ dat n t = true ∧ r < k ∧ Q (.sh (.bl (fits' r s t))) []
theorem pure__law_fits {k : Nat} : Pure (S__law_fits (k + 1)) 2 8 (T__law_fits (S__law_fits k) S__law_kind) := by
  rintro args QV EV aa1 aa2 ⟨n, r, m, s, t, rfl, hs, sf, ht, hk, hq⟩
  have ti := dat_ins ht
  have tb := dat_basic ht
  cases r with
  | zero => rw [sh_zero] at hs; cases hs
  | succ r =>
    replace hq : QV (.sh (.bl (fitOf (fits' r) s t))) [] := hq
    cases sh_form hs with
    | one h =>
      rename_i w
      simp [T__law_fits, padE, at0s, K__law_fits_12]
      rcases h with rfl | rfl | rfl
      · simp [K__law_fits_11]
        simpa [fitOf] using hq
      · simp [K__law_fits_11, K__law_fits_10, ti]
        refine clI ⟨t, rfl, tb, ?_⟩
        simp [kind_lk ht]
        by_cases hkd : kindD t = "none"
        · simp [hkd, K__law_fits_9, K__law_fits_8, K__law_fits_7, K__law_fits_6]
          simpa [fitOf, hkd] using hq
        · simp [hkd]
          simpa [fitOf, hkd] using hq
      · simp [K__law_fits_11, K__law_fits_10, ti]
        refine clI ⟨t, rfl, tb, ?_⟩
        simp [kind_lk ht]
        by_cases hkd : kindD t = "truth"
        · simp [hkd, K__law_fits_9, K__law_fits_8, K__law_fits_7, K__law_fits_6]
          simpa [fitOf, hkd] using hq
        · simp [hkd]
          simpa [fitOf, hkd] using hq
    | num h1 h2 h3 =>
      rename_i a b
      simp [T__law_fits, padE, at0s, K__law_fits_12, K__law_fits_11, K__law_fits_10, ti]
      refine clI ⟨t, rfl, tb, ?_⟩
      simp [kind_lk ht]
      by_cases hkd : kindD t = "number"
      · obtain ⟨i, rfl⟩ := kind_int ht hkd
        simp [K__law_fits_9, at1s, at2s]
        by_cases hai : a ≤ i
        · rw [if_pos hai]; simpa [fitOf, hai] using hq
        · rw [if_neg hai]; simpa [fitOf, hai] using hq
      · simp [hkd]
        have : fitOf (fits' r) (.tup [.str "number", .int a, .int b]) t = false := by cases t <;> first | rfl | (exact absurd rfl hkd) | (simp [dat] at ht)
        rw [this] at hq; exact hq
    | word h1 h2 =>
      rename_i a
      simp [T__law_fits, padE, at0s, K__law_fits_12, K__law_fits_11, K__law_fits_10, ti]
      refine clI ⟨t, rfl, tb, ?_⟩
      simp [kind_lk ht]
      by_cases hkd : kindD t = "word"
      · obtain ⟨z, rfl⟩ := kind_wd ht hkd
        simp [K__law_fits_9, K__law_fits_8, at1s]
        simpa [fitOf] using hq
      · simp [hkd]
        have : fitOf (fits' r) (.tup [.str "word", .int a]) t = false := by cases t <;> first | rfl | (exact absurd rfl hkd) | (simp [dat] at ht)
        rw [this] at hq; exact hq
    | row h1 h2 h3 h =>
      rename_i s' a b
      obtain ⟨m', sf'⟩ := sf_row sf
      simp [T__law_fits, padE, at0s, K__law_fits_12, K__law_fits_11, K__law_fits_10, ti]
      refine clI ⟨t, rfl, tb, ?_⟩
      simp [kind_lk ht]
      by_cases hkd : kindD t = "row"
      · obtain ⟨n', ds, rfl, rfl, hl, hx⟩ := kind_row ht hkd
        replace hq : QV (.sh (.bl ((decide (a ≤ ds.length) && decide ((ds.length : Int) ≤ b)) && ds.all (fits' r s')))) [] := by rw [fit_row] at hq; exact hq
        simp [K__law_fits_9, K__law_fits_8, K__law_fits_7, at1s, at2s, at3s]
        by_cases ha : a ≤ (ds.length : Int)
        · rw [if_pos ha]
          by_cases hb : (ds.length : Int) ≤ b
          · simp [hb]
            refine bLc_map (s0 := .un) ds id (fun x => .bl (fits' r s' x)) (by simp) hl rfl (fun x hm Q hQ => ?_) ?_
            · simp [at1s, sf_ins sf', dat_ins (hx x hm)]
              exact clI (S := S__law_fits k) ⟨n', r, m', s', x, rfl, h, sf', hx x hm, by omega, by simpa using hQ⟩
            · simp [all_bls]
              simpa [ha, hb] using hq
          · simp [hb]; simpa [ha, hb] using hq
        · rw [if_neg ha]; simpa [ha] using hq
      · simp [hkd]
        have : fitOf (fits' r) (.tup [.str "row", s', .int a, .int b]) t = false := by rw [fit_row]; cases t <;> first | rfl | (exact absurd rfl hkd) | (simp [dat] at ht)
        rw [this] at hq; exact hq
    | tab h1 h2 h3 =>
      rename_i es q
      obtain ⟨hl, m', e1, e2⟩ := sf_tab sf
      simp [T__law_fits, padE, at0s, K__law_fits_12, K__law_fits_11, K__law_fits_10, ti]
      refine clI ⟨t, rfl, tb, ?_⟩
      simp [kind_lk ht]
      by_cases hkd : kindD t = "table"
      · obtain ⟨n', kvs, rfl, rfl, hl2, hx, nd⟩ := kind_table ht hkd
        replace hq : QV (.sh (.bl (tabFit (fits' r) es q kvs))) [] := by rw [fit_tab] at hq; exact hq
        simp [K__law_fits_9, K__law_fits_8, K__law_fits_7, K__law_fits_6, K__law_fits_5, K__law_fits_4, at1s]
        have nde : ((es.map entK).map (·.1)).Nodup := ent_nd h1 h2
        refine ⟨fun j env => ∃ s4 s5 s6 : Sv, env = [.sh (.tup [.str "table", .tup es, q]), .sh (.dct kvs), .sh (.str "table"), .ow (.dct ((es.map entK).take j)), s4, s5, s6, .un] ∧ ∀ e ∈ es.take j, missE kvs e = false, ⟨_, _, _, rfl, by simp⟩, ?_, ?_⟩
        · rintro j e env hj ⟨s4, s5, s6, rfl, hok⟩
          have hm := List.mem_of_getElem? hj
          obtain ⟨kk, s, b, rfl, hw, hs'⟩ := isEn_form (h1 e hm)
          have hsf : Sf m' s := by
            have := e1 _ hm
            cases this with
            | bad h => simp at h
            | ok _ h => exact h
          have hjl := (List.getElem?_eq_some_iff.mp hj).1
          have e3 : setD (.dct ((es.map entK).take j)) (.str kk) s = some (.dct ((es.map entK).take (j + 1))) := by
            simp only [setD, show keyD (.str kk) = some (.inr kk) from rfl, Option.bind_some]
            rw [if_pos (by rw [fits_def]; simp; omega), put_next nde (d := s) (by rw [List.getElem?_map, hj]; rfl)]
          have nxt : missE kvs (.tup [.str kk, s, .bl b]) = false → ∀ e ∈ es.take (j + 1), missE kvs e = false := fun h e he => by
            rw [List.take_add_one, hj, List.mem_append] at he
            rcases he with he | he
            · exact hok e he
            · simp at he; subst he; exact h
          simp [sf_ins hsf, e3, K__law_fits_1]
          cases hv : valD kvs (.inr kk) with
          | none =>
            have g1 : vIn (.str kk) (.dct kvs) = some (.sh (.bl false)) := by simp [vIn, isInD, keyD, hv]
            have g2 : vNotIn (.str kk) (.dct kvs) = some (.sh (.bl true)) := by simp [vNotIn, isInD, keyD, hv]
            simp [g1, g2]
            cases b with
            | true =>
              simp
              rw [tab_miss (r := r) hm (by simp [missE, hv])] at hq
              exact hq
            | false => simp; exact nxt (by simp [missE])
          | some x =>
            have g1 : vIn (.str kk) (.dct kvs) = some (.sh (.bl true)) := by simp [vIn, isInD, keyD, hv]
            have g2 : vNotIn (.str kk) (.dct kvs) = some (.sh (.bl false)) := by simp [vNotIn, isInD, keyD, hv]
            simp [g1, g2]
            exact nxt (by simp [missE, hv])
        · rintro env ⟨s4, s5, s6, rfl, hok⟩
          rw [List.take_length] at hok
          rw [tab_law h1 h2 (fun p hp => (hx p hp).1) nd hok] at hq
          have tl : (es.map entK).take es.length = es.map entK := List.take_of_length_le (by simp)
          simp [K__law_fits_3]
          refine ⟨kvs, rfl, keys_fit hx, fun j env => ∃ s4, env = [.sh (.tup [.str "table", .tup es, q]), .sh (.dct kvs), .sh (.str "table"), .ow (.dct (es.map entK)), s4, s5, s6, .un] ∧ ∀ p ∈ kvs.take j, pairL (fits' r) es q p = true, ⟨s4, by simp [tl]⟩, ?_, ?_⟩
          · rintro j key d env hj ⟨s4, rfl, hall⟩
            have hm : (key, d) ∈ kvs := List.mem_of_getElem? hj
            have hsd := hx _ hm
            cases key with
            | inl i => exact absurd hsd.1 (by simp [strKey])
            | inr z =>
              have hv : valD kvs (.inr z) = some d := valD_of hm nd
              have hkd : keyV (.inr z) = .str z := rfl
              have hkk : keyD (.str z) = some (.inr z) := rfl
              have nxt : pairL (fits' r) es q (.inr z, d) = true → ∀ p ∈ kvs.take (j + 1), pairL (fits' r) es q p = true := fun h e he => by
                rw [List.take_add_one, hj, List.mem_append] at he
                rcases he with he | he
                · exact hall e he
                · simp at he; subst he; exact h
              have bad : pairL (fits' r) es q (.inr z, d) = false → QV (.sh (.bl false)) [] := fun h => by
                have : kvs.all (pairL (fits' r) es q) = false := by
                  rw [Bool.eq_false_iff]; intro hh
                  rw [List.all_eq_true.mp hh _ hm] at h; cases h
                rw [this] at hq; exact hq
              cases hv2 : valD (es.map entK) (.inr z) with
              | none =>
                have g1 : vIn (.str z) (.dct (es.map entK)) = some (.sh (.bl false)) := by simp [vIn, isInD, keyD, hv2]
                have g2 : vNotIn (.str z) (.dct (es.map entK)) = some (.sh (.bl true)) := by simp [vNotIn, isInD, keyD, hv2]
                by_cases hqn : q = .non
                · subst hqn
                  simp [hkd, g1, g2, at2s]
                  exact bad (by simp [pairL, hv2])
                · have sq := e2 hqn
                  have hqs := rest_sh h3 hqn
                  have hnn : vIsN q .non = some (.sh (.bl false)) := by cases sq <;> rfl
                  have hp : pairL (fits' r) es q (.inr z, d) = fits' r q d := by
                    cases sq <;> simp only [pairL, hv2]
                  simp [hkd, g1, g2, at2s, hnn, hv, hv2, sf_ins sq, dat_ins hsd.2]
                  refine clI ⟨n', r, m', q, d, rfl, hqs, sq, hsd.2, by omega, ?_⟩
                  cases ef : fits' r q d with
                  | true => simp; exact fun a b h => nxt (by rw [hp]; exact ef) (a, b) h
                  | false => simp; exact bad (by rw [hp]; exact ef)
              | some s =>
                have g1 : vIn (.str z) (.dct (es.map entK)) = some (.sh (.bl true)) := by simp [vIn, isInD, keyD, hv2]
                have g2 : vNotIn (.str z) (.dct (es.map entK)) = some (.sh (.bl false)) := by simp [vNotIn, isInD, keyD, hv2]
                have hp : pairL (fits' r) es q (.inr z, d) = fits' r s d := by simp only [pairL, hv2]
                obtain ⟨e, he, hee⟩ := List.mem_map.mp (valD_mem hv2)
                obtain ⟨k', s', b, rfl, _, hss⟩ := isEn_form (h1 e he)
                simp only [entK, shE, Prod.mk.injEq] at hee
                obtain ⟨_, rfl⟩ := hee
                have hsf : Sf m' s' := by
                  have := e1 _ he
                  cases this with
                  | bad h => simp at h
                  | ok _ h => exact h
                simp [hkd, g1, g2, at2s, hv, hv2, sf_ins hsf, dat_ins hsd.2]
                have qi : isIns q = false := by
                  by_cases hqn : q = .non
                  · subst hqn; rfl
                  · exact sf_ins (e2 hqn)
                refine ⟨qi, clI (S := S__law_fits k) ⟨n', r, m', s', d, rfl, hss, hsf, hsd.2, by omega, ?_⟩⟩
                cases ef : fits' r s' d with
                | true => simp; exact fun a b h => nxt (by rw [hp]; exact ef) (a, b) h
                | false => simp; exact bad (by rw [hp]; exact ef)
          · rintro env ⟨s4, rfl, hall⟩
            rw [List.take_length] at hall
            rw [List.all_eq_true.mpr hall] at hq
            simp [K__law_fits_2]; exact hq
      · simp [hkd]
        have : fitOf (fits' r) (.tup [.str "table", .tup es, q]) t = false := by rw [fit_tab]; cases t <;> first | rfl | (exact absurd rfl hkd) | (simp [dat] at ht)
        rw [this] at hq; exact hq
    | or h =>
      rename_i ss
      obtain ⟨hl, m', sf'⟩ := sf_or sf
      replace hq : QV (.sh (.bl (ss.any fun s => fits' r s t))) [] := hq
      simp [T__law_fits, padE, at0s, K__law_fits_12, at1s]
      refine bLc_map (s0 := .un) ss id (fun s => .bl (fits' r s t)) (by simp) hl rfl (fun s hm Q hQ => ?_) ?_
      · simp [sf_ins (sf' s hm), ti]
        exact clI ⟨n, r, m', s, t, rfl, h s hm, sf' s hm, ht, by omega, by simpa using hQ⟩
      · simp [any_bls]
        exact hq
end VL
set_option linter.all false
set_option maxRecDepth 100000
set_option maxHeartbeats 400000
namespace VL
open PySem PySem.Spec PyProof.Rows L2
/-! ## things of few words and keys -/
def abc : List Key := [.inr "a", .inr "b", .inr "c"]
def isAbc (k : Key) : Bool := abc.any fun x => decide (x = k)
theorem isAbc_iff {k : Key} : isAbc k = true ↔ k ∈ abc := by
  simp only [isAbc, List.any_eq_true, decide_eq_true_eq]
  exact ⟨fun ⟨x, h, e⟩ => e ▸ h, fun h => ⟨k, h, rfl⟩⟩
theorem nodup_len {α : Type} : ∀ {l m : List α}, l.Nodup → (∀ x ∈ l, x ∈ m) → l.length ≤ m.length
  | [], _, _, _ => by simp
  | a :: l, m, nd, h => by
    obtain ⟨m1, m2, rfl⟩ := List.append_of_mem (h a (by simp))
    rw [List.nodup_cons] at nd
    have := nodup_len (l := l) (m := m1 ++ m2) nd.2 (fun x hx => by
      have h1 := h x (by simp [hx])
      have h2 : x ≠ a := fun e => nd.1 (e ▸ hx)
      simp [h2] at h1
      simpa using h1)
    simp at this ⊢; omega
def few : Nat → D → Bool
  | _, .non => true
  | _, .bl _ => true
  | _, .int i => decide (-1000 ≤ i) && decide (i ≤ 1000)
  | _, .str z => isWord z && decide (z.length ≤ 10)
  | n + 1, .lst ds => decide (ds.length ≤ 4) && ds.all (few n)
  | n + 1, .dct kvs => (kvs.all fun p => isAbc p.1 && few n p.2) && decide (kvs.map (·.1)).Nodup
  | _, _ => false
section
variable {n m r : Nat} {d x y : D} {kvs : List (Key × D)} {ds : List D}
theorem abc_word {k : Key} (h : k ∈ abc) : isWord (keyS k) = true ∧ strKey k = true ∧ k = .inr (keyS k) := by
  have : ∀ z ∈ (["a", "b", "c"] : List Str), isWord z = true := by decide +kernel
  simp only [abc, List.mem_cons, List.not_mem_nil, or_false] at h
  rcases h with rfl | rfl | rfl
  · exact ⟨this "a" (by simp), by decide +kernel, rfl⟩
  · exact ⟨this "b" (by simp), by decide +kernel, rfl⟩
  · exact ⟨this "c" (by simp), by decide +kernel, rfl⟩
theorem abc_len {l : List Key} (h : ∀ k ∈ l, k ∈ abc) (nd : l.Nodup) : l.length ≤ 3 :=
  nodup_len nd h
theorem few_lst : few (n + 1) (.lst ds) = true ↔ ds.length ≤ 4 ∧ ∀ x ∈ ds, few n x = true := by simp [few]
theorem few_dct : few (n + 1) (.dct kvs) = true ↔ (∀ p ∈ kvs, p.1 ∈ abc ∧ few n p.2 = true) ∧ (kvs.map (·.1)).Nodup := by
  simp only [few, Bool.and_eq_true, decide_eq_true_eq, List.all_eq_true, isAbc_iff]
theorem few_len (h : few (n + 1) (.dct kvs) = true) : kvs.length ≤ 3 := by
  obtain ⟨h1, h2⟩ := few_dct.mp h
  have := abc_len (l := kvs.map (·.1)) (fun k hk => by obtain ⟨p, hp, rfl⟩ := List.mem_map.mp hk; exact (h1 p hp).1) h2
  simpa using this
theorem few_dat : ∀ {n : Nat} {d : D}, few n d = true → dat n d = true := by
  intro n
  induction n with
  | zero => intro d h; cases d <;> simp [few] at h <;> simp [dat]; exact Nat.le_trans (word_len h.1) (by omega)
  | succ n ih =>
    intro d h
    cases d with
    | lst ds => rw [few_lst] at h; exact dat_lst.mpr ⟨by omega, fun x hx => ih (h.2 x hx)⟩
    | dct kvs =>
      have hl := few_len h
      rw [few_dct] at h
      exact dat_dct.mpr ⟨by omega, fun p hp => ⟨(abc_word (h.1 p hp).1).2.1, ih (h.1 p hp).2⟩, h.2⟩
    | str z => simp [few] at h; simp [dat]; exact Nat.le_trans (word_len h.1) (by omega)
    | _ => simp [few] at h <;> simp [dat]
theorem few_th : ∀ {n : Nat} {d : D}, few n d = true → isTh n d = true := by
  intro n
  induction n with
  | zero => intro d h; cases d <;> simp [few] at h <;> simp [isTh] <;> first | exact h.1 | (split <;> omega)
  | succ n ih =>
    intro d h
    cases d with
    | lst ds => rw [few_lst] at h; exact isTh_lst.mpr fun x hx => ih (h.2 x hx)
    | dct kvs =>
      have hd := few_dat h
      rw [few_dct] at h
      exact (isTh_dct hd).mpr fun p hp => ⟨(abc_word (h.1 p hp).1).1, ih (h.1 p hp).2⟩
    | _ => simp [few] at h <;> simp [isTh] <;> first | exact h.1 | (split <;> omega)
theorem few_mono : ∀ {n : Nat} {d : D}, few n d = true → few (n + 1) d = true := by
  intro n
  induction n with
  | zero => intro d h; cases d <;> simp [few] at h ⊢ <;> exact h
  | succ n ih =>
    intro d h
    cases d with
    | lst ds => rw [few_lst] at h ⊢; exact ⟨h.1, fun x hx => ih (h.2 x hx)⟩
    | dct kvs => rw [few_dct] at h ⊢; exact ⟨fun p hp => ⟨(h.1 p hp).1, ih (h.1 p hp).2⟩, h.2⟩
    | _ => simp [few] at h ⊢ <;> exact h
theorem few_le (h : few n d = true) (hn : n ≤ m) : few m d = true := by
  induction hn with
  | refl => exact h
  | step _ ih => exact few_mono ih
theorem few_put {z : Str} {e : D} (h : few (n + 1) (.dct kvs) = true) (hz : (.inr z) ∈ abc) (he : few n e = true) : few (n + 1) (.dct (putD kvs (.inr z) e)) = true := by
  have hd := few_dat h
  have hl := few_len h
  have hp := @put_len kvs (.inr z) e
  have hd2 := dat_put (z := z) hd (by have := word_len (abc_word hz).1; simp [keyS] at this; omega) (by omega) (few_dat he)
  rw [few_dct] at h ⊢
  refine ⟨fun p hp => ?_, (dat_dct.mp hd2).2.2⟩
  rcases mem_put hp with h1 | ⟨h1, h2⟩
  · exact h.1 p h1
  · rw [h1, h2]; exact ⟨hz, he⟩
theorem few_nil : few (n + 1) (.dct []) = true := by simp [few]
theorem few_int {n : Nat} {i : Int} (h : few n (.int i) = true) : -1000 ≤ i ∧ i ≤ 1000 := by cases n <;> simpa [few] using h
theorem few_str {n : Nat} {z : Str} (h : few n (.str z) = true) : isWord z = true ∧ z.length ≤ 10 := by cases n <;> simpa [few] using h
theorem few_val {n : Nat} {kvs : List (Key × D)} {k : Key} {e : D} (h : few n (.dct kvs) = true) (hz : valD kvs k = some e) : few n e = true := by
  cases n with
  | zero => cases h
  | succ n => rw [few_dct] at h; exact few_mono (h.1 _ (valD_mem hz)).2
theorem few_mem {n : Nat} {ds : List D} {x : D} (h : few n (.lst ds) = true) (hz : x ∈ ds) : few n x = true := by
  cases n with
  | zero => cases h
  | succ n => rw [few_lst] at h; exact few_mono (h.2 _ hz)
theorem put_fits {z : Str} {x : D} (h : few (n + 1) (.dct kvs) = true) : setD (.dct kvs) (.str z) x = some (.dct (putD kvs (.inr z) x)) := by
  have hl := few_len h
  have hp := @put_len kvs (.inr z) x
  simp only [setD, show keyD (.str z) = some (.inr z) from rfl, Option.bind_some]
  rw [if_pos (by rw [fits_def]; omega)]
end
def bf : Nat → Nat
  | 0 => 10
  | m + 1 => 4 * (bf m + 2) + 10
theorem bf_pos {m : Nat} : 10 ≤ bf m := by cases m <;> simp [bf]
def S__law_few (k : Nat) : VSp := fun args Q _ => ∃ (ns : List Int) (n m : Nat), args = [scr ns, .io (twn n), .sh (.int m)] ∧ m < k ∧ n + bf m ≤ 1000000 ∧ ∀ (d : D) (n' : Nat), few m d = true → n ≤ n' → n' ≤ n + bf m → Q (.sh d) [twn n']
theorem pure__law_few {k : Nat} : Pure (S__law_few (k + 1)) 3 8 (T__law_few S__law_draw S__law_pick (S__law_few k)) := by
  rintro args QV EV aa1 aa2 ⟨ns, n, m, rfl, hm, hn, hq⟩
  have hb := @bf_pos m
  simp [T__law_few, padE]
  have leaf : ∀ (n1 : Nat) (i : Int), n ≤ n1 → n1 ≤ n + 1 → i < 4 → K__law_few_6 S__law_draw S__law_pick (S__law_few k) (bodyEnds [scr ns, .io (twn n), .sh (.int m)] QV EV) [scr ns, .io (twn n1), .sh (.int m), .sh (.int i), .un, .un, .un, .un] := by
    intro n1 i h0 h1 hi
    simp [K__law_few_6, hi]
    refine clI ⟨ns, n1, 100, rfl, by omega, by omega, fun i h2 h3 => ?_⟩
    simp [K__law_few_1]
    refine clI ⟨ns, n1 + 1, _, rfl, by omega, by simp, by simp, fun d' hd' => ?_⟩
    have hk' : few m d' = true := by
      have h1 : isWord "" = true := by decide +kernel
      have h2 : isWord "a" = true := by decide +kernel
      have h3 : isWord "abc" = true := by decide +kernel
      have : few 0 d' = true := by
        simp at hd'
        rcases hd' with rfl | rfl | rfl | rfl | rfl | rfl | rfl | rfl | rfl | rfl <;> simp [few, *] <;> first | omega | decide +kernel
      exact few_le this (by omega)
    simp [dat_ins (few_dat hk')]
    exact hq d' _ hk' (by omega) (by omega)
  cases m with
  | zero =>
    simp
    refine clI ⟨ns, n, 4, rfl, by omega, by omega, fun i h0 h1 => ?_⟩
    simp
    exact leaf (n + 1) i (by omega) (by omega) (by omega)
  | succ m =>
    rw [if_pos (by omega)]
    refine clI ⟨ns, n, 9, rfl, by omega, by omega, fun i h0 h1 => ?_⟩
    simp
    by_cases hi : i < 4
    · exact leaf _ i (by omega) (by omega) hi
    · simp [K__law_few_6, hi, K__law_few_5]
      by_cases hj : i < 6
      · simp [hj]
        refine clI ⟨ns, n + 1, 4, rfl, by omega, by omega, fun j j0 j1 => ?_⟩
        simp
        refine ⟨by omega, by omega, by simp; omega, .un, rfl, fun t acc env => ∃ n', env = [scr ns, .io (twn n'), .sh (.int ((m : Int) + 1)), .sh (.int i), .un, .un, .un, .un] ∧ n + 2 ≤ n' ∧ n' ≤ n + 2 + t * bf m ∧ acc.length = t ∧ ∀ x ∈ acc, few m x = true,
          ⟨n + 2, rfl, by omega, by omega, rfl, fun x hx => by cases hx⟩, ?_, ?_⟩
        · rintro t d acc env hd ⟨n', rfl, h2, h3, h4, h5⟩ he
          have htl : t < j.toNat := by
            have := (List.getElem?_eq_some_iff.mp hd).1
            simpa using this
          have ht2 : t * bf m ≤ 2 * bf m := Nat.mul_le_mul_right _ (by omega)
          have hbb : bf (m + 1) = 4 * (bf m + 2) + 10 := rfl
          have hs : (t + 1) * bf m = t * bf m + bf m := Nat.succ_mul _ _
          simp
          refine clI ⟨ns, n', m, by simp, by omega, by omega, fun x n'' q1 q3 q4 => ?_⟩
          simp [dat_ins (few_dat q1)]
          refine ⟨n'', rfl, by omega, by omega, h4, fun y hy => ?_⟩
          rcases hy with hy | hy
          · exact h5 y hy
          · subst hy; exact q1
        · rintro acc env ⟨n', rfl, h2, h3, h4, h5⟩ he
          have ht2 : j.toNat * bf m ≤ 3 * bf m := Nat.mul_le_mul_right _ (by omega)
          simp at h3 h4
          simp
          exact hq _ _ (few_lst.mpr ⟨by omega, h5⟩) (by omega) (by simp only [bf]; omega)
      · simp [hj, K__law_few_4, K__law_few_3]
        refine ⟨fun t env => ∃ n' kvs s, env = [scr ns, .io (twn n'), .sh (.int ((m : Int) + 1)), .sh (.int i), .ow (.dct kvs), s, .un, .un] ∧ n + 1 ≤ n' ∧ n' ≤ n + 1 + t * (bf m + 1) ∧ few (m + 1) (.dct kvs) = true,
          ⟨n + 1, [], .un, rfl, by omega, by omega, few_nil⟩, ?_, ?_⟩
        · rintro t d env hd ⟨n', kvs, s, rfl, h2, h3, h5⟩
          have htl : t < 3 := by
            have := (List.getElem?_eq_some_iff.mp hd).1
            simpa using this
          have ht2 : t * (bf m + 1) ≤ 2 * (bf m + 1) := Nat.mul_le_mul_right _ (by omega)
          have hbb : bf (m + 1) = 4 * (bf m + 2) + 10 := rfl
          have hs : (t + 1) * (bf m + 1) = t * (bf m + 1) + (bf m + 1) := Nat.succ_mul _ _
          obtain ⟨z, rfl, hz⟩ : ∃ z, d = .str z ∧ (Sum.inr z : Key) ∈ abc := by
            have := List.mem_of_getElem? hd
            simp only [List.mem_cons, List.not_mem_nil, or_false] at this
            rcases this with rfl | rfl | rfl
            · exact ⟨_, rfl, by simp [abc]⟩
            · exact ⟨_, rfl, by simp [abc]⟩
            · exact ⟨_, rfl, by simp [abc]⟩
          simp
          refine clI ⟨ns, n', 3, rfl, by omega, by omega, fun c c0 c1 => ?_⟩
          simp
          by_cases hc : 0 < c
          · simp [hc]
            refine clI ⟨ns, n' + 1, m, by simp, by omega, by omega, fun x n'' q1 q3 q4 => ?_⟩
            simp [dat_ins (few_dat q1), put_fits h5]
            exact ⟨n'', rfl, by omega, by omega, few_put h5 hz q1⟩
          · simp [hc]
            exact ⟨n' + 1, rfl, by omega, by omega, h5⟩
        · rintro env ⟨n', kvs, s, rfl, h2, h3, h5⟩
          simp [K__law_few_2]
          have hbb : bf (m + 1) = 4 * (bf m + 2) + 10 := rfl
          simp at h3
          exact hq _ _ h5 (by omega) (by omega)
end VL
set_option linter.all false
set_option maxRecDepth 100000
set_option maxHeartbeats 4000000
namespace VL
open PySem PySem.Spec PyProof.Rows L2
theorem shOf_mono {f g : D → Bool} (h : ∀ x, f x = true → g x = true) {d : D} (hd : shOf f d = true) : shOf g d = true := by
  unfold shOf at hd ⊢
  split at hd
  · exact hd
  · exact hd
  · simp only [Bool.and_eq_true, List.all_eq_true] at hd ⊢
    exact ⟨hd.1, fun x hx => h x (hd.2 x hx)⟩
  · exact hd
  · simp only [Bool.and_eq_true, List.all_eq_true] at hd ⊢
    refine ⟨hd.1, fun e he => ?_, hd.2.2.1, ?_⟩
    · have := hd.2.1 e he
      unfold enOf at this ⊢
      split at this
      · simp only [Bool.and_eq_true] at this ⊢
        exact ⟨this.1, h _ this.2⟩
      · exact this
    · have := hd.2.2.2
      unfold restOf at this ⊢
      split at this
      · rfl
      · exact h _ this
  · simp only [Bool.and_eq_true] at hd ⊢
    exact ⟨hd.1, hd.2.1, h _ hd.2.2⟩
  · exact hd
theorem isSh_mono : ∀ {r : Nat} {d : D}, isSh r d = true → isSh (r + 1) d = true
  | 0, d, h => by rw [sh_zero] at h; cases h
  | r + 1, d, h => shOf_mono (f := isSh r) (g := isSh (r + 1)) (fun x hx => isSh_mono hx) h
theorem isSh_le {r m : Nat} {d : D} (h : isSh r d = true) (hn : r ≤ m) : isSh m d = true := by
  induction hn with
  | refl => exact h
  | step _ ih => exact isSh_mono ih
def bs : Nat → Nat
  | 0 => 10
  | m + 1 => 6 * (bs m + 5) + 30
theorem bs_pos {m : Nat} : 10 ≤ bs m := by cases m <;> simp [bs] <;> omega
def S__law_shape (k : Nat) : VSp := fun args Q _ => ∃ (ns : List Int) (n f m : Nat) (d : D), args = [scr ns, .io (twn n), .sh d, .sh (.int m)] ∧ few f d = true ∧ m < k ∧ n + bs m ≤ 1000000 ∧
  ∀ (s : D) (n' : Nat), isSh (m + 1) s = true → Sf (m + 1) s → n ≤ n' → n' ≤ n + bs m → Q (.sh s) [twn n']
def S__law_inner (k : Nat) : VSp := fun args Q _ => ∃ (ns : List Int) (n f m : Nat) (ds : List D), args = [scr ns, .io (twn n), .sh (.lst ds), .sh (.int ((m : Int) + 1))] ∧ (∀ x ∈ ds, few f x = true) ∧ m < k ∧ n + bs m + 1 ≤ 1000000 ∧
  ∀ (s : D) (n' : Nat), isSh (m + 1) s = true → Sf (m + 1) s → n ≤ n' → n' ≤ n + bs m + 1 → Q (.sh s) [twn n']
theorem cutToL {ds : List D} {j : Nat} : vCut (.lst ds) none (some (j : Int)) = some (.ow (.lst (ds.take j))) := by
  simp only [vCut, cutD, HT.sIx_none, HT.sIx_nat, List.drop_zero, Nat.sub_zero]
  rcases Nat.lt_or_ge ds.length j with h | h
  · rw [Nat.min_eq_right (by omega), List.take_of_length_le (by omega), List.take_of_length_le (by omega)]
  · rw [Nat.min_eq_left h]
theorem cutFromL {ds : List D} {j : Nat} : vCut (.lst ds) (some (j : Int)) none = some (.ow (.lst (ds.drop j))) := by
  simp only [vCut, cutD, HT.sIx_none, HT.sIx_nat]
  rcases Nat.lt_or_ge ds.length j with h | h
  · rw [Nat.min_eq_right (by omega), List.drop_of_length_le (by omega), List.drop_of_length_le (by omega)]; simp
  · rw [Nat.min_eq_left h, List.take_of_length_le (by simp)]
theorem max_two {a b : Int} : vMax [.int a, .int b] = some (.sh (.int (max a b))) := by
  simp only [vMax]
  congr 3
  omega
theorem min_two {a b : Int} : vMin [.int a, .int b] = some (.sh (.int (min a b))) := by
  simp only [vMin]
  congr 3
  omega
def names4 : List Str := ["a", "b", "bb", "c"]
def subs : Nat → List (List Str)
  | 0 => [[]]
  | t + 1 => subs t ++ (subs t).map fun l => l ++ [names4.getD t ""]
theorem subs_keep {t : Nat} {l : List Str} (h : l ∈ subs t) : l ∈ subs (t + 1) := by
  simp only [subs, List.mem_append]; exact .inl h
theorem subs_add {t : Nat} {l : List Str} (h : l ∈ subs t) : l ++ [names4.getD t ""] ∈ subs (t + 1) := by
  simp only [subs, List.mem_append, List.mem_map]; exact .inr ⟨l, h, rfl⟩
theorem rising_of {l : List Str} (h : sortedS l = true) (nd : l.Nodup) : rising l = true := by
  have : l = sortS (once l) := sortS_unique ((List.perm_ext_iff_of_nodup nd once_nd).mpr fun a => (mem_once).symm) h
  simp only [rising, decide_eq_true_eq]; exact this
theorem subs_rising {l : List Str} (h : l ∈ subs 4) : rising l = true := by
  have : ∀ l ∈ subs 4, sortedS l = true ∧ l.Nodup := by decide +kernel
  exact rising_of (this l h).1 (this l h).2
theorem keysT_add {es : List D} {k : Str} {l : List D} : keysT (es ++ [.tup (.str k :: l)]) = keysT es ++ [k] := by simp [keysT]
theorem app_ok {es : List D} {d : D} (hl : es.length ≤ 100) : fApp (.lst es) [d] = some (.non, .lst (es ++ [d])) := by
  simp only [fApp]
  rw [if_pos (by simp; omega)]
end VL
set_option linter.all false
set_option maxRecDepth 100000
set_option maxHeartbeats 400000
namespace VL
open PySem PySem.Spec PyProof.Rows L2
/-! ## the narrowest shape -/
theorem mx_mem : ∀ {l : List Int}, l ≠ [] → mx l ∈ l
  | [], h => absurd rfl h
  | [a], _ => by simp [mx]
  | a :: b :: r, _ => by
    have ih := mx_mem (l := b :: r) (by simp)
    simp only [mx]
    rcases Int.le_total a (mx (b :: r)) with h | h
    · rw [Int.max_eq_right h]; exact List.mem_cons_of_mem _ ih
    · rw [Int.max_eq_left h]; simp
theorem mx_ge : ∀ {l : List Int} {y : Int}, y ∈ l → y ≤ mx l
  | [a], y, h => by simp at h; subst h; simp [mx]
  | a :: b :: r, y, h => by
    simp only [mx]
    rcases List.mem_cons.mp h with rfl | h
    · exact Int.le_max_left _ _
    · exact Int.le_trans (mx_ge h) (Int.le_max_right _ _)
theorem mn_mem : ∀ {l : List Int}, l ≠ [] → mn l ∈ l
  | [], h => absurd rfl h
  | [a], _ => by simp [mn]
  | a :: b :: r, _ => by
    have ih := mn_mem (l := b :: r) (by simp)
    simp only [mn]
    rcases Int.le_total a (mn (b :: r)) with h | h
    · rw [Int.min_eq_left h]; simp
    · rw [Int.min_eq_right h]; exact List.mem_cons_of_mem _ ih
theorem mn_le : ∀ {l : List Int} {y : Int}, y ∈ l → mn l ≤ y
  | [a], y, h => by simp at h; subst h; simp [mn]
  | a :: b :: r, y, h => by
    simp only [mn]
    rcases List.mem_cons.mp h with rfl | h
    · exact Int.min_le_left _ _
    · exact Int.le_trans (Int.min_le_right _ _) (mn_le h)
/-- the same members -/
def Ss {α : Type} (l m : List α) : Prop := ∀ x, x ∈ l ↔ x ∈ m
theorem Ss.nil {α : Type} {l m : List α} (h : Ss l m) : l = [] ↔ m = [] := by
  rw [List.eq_nil_iff_forall_not_mem, List.eq_nil_iff_forall_not_mem]
  exact ⟨fun a x hx => a x ((h x).mpr hx), fun a x hx => a x ((h x).mp hx)⟩
theorem Ss.map {α β : Type} {l m : List α} (h : Ss l m) (f : α → β) : Ss (l.map f) (m.map f) := fun x => by
  simp only [List.mem_map]
  exact ⟨fun ⟨y, a, b⟩ => ⟨y, (h y).mp a, b⟩, fun ⟨y, a, b⟩ => ⟨y, (h y).mpr a, b⟩⟩
theorem Ss.filter {α : Type} {l m : List α} (h : Ss l m) (f : α → Bool) : Ss (l.filter f) (m.filter f) := fun x => by
  simp only [List.mem_filter]; rw [h x]
theorem Ss.fmap {α β : Type} {l m : List α} (h : Ss l m) (f : α → Option β) : Ss (l.filterMap f) (m.filterMap f) := fun x => by
  simp only [List.mem_filterMap]
  exact ⟨fun ⟨y, a, b⟩ => ⟨y, (h y).mp a, b⟩, fun ⟨y, a, b⟩ => ⟨y, (h y).mpr a, b⟩⟩
theorem Ss.flat {α β : Type} {l m : List α} (h : Ss l m) (f : α → List β) : Ss (l.flatMap f) (m.flatMap f) := fun x => by
  simp only [List.mem_flatMap]
  exact ⟨fun ⟨y, a, b⟩ => ⟨y, (h y).mp a, b⟩, fun ⟨y, a, b⟩ => ⟨y, (h y).mpr a, b⟩⟩
theorem Ss.all {α : Type} {l m : List α} (h : Ss l m) (f : α → Bool) : l.all f = m.all f := by
  rw [Bool.eq_iff_iff, List.all_eq_true, List.all_eq_true]
  exact ⟨fun a x hx => a x ((h x).mpr hx), fun a x hx => a x ((h x).mp hx)⟩
theorem Ss.mx {l m : List Int} (h : Ss l m) : mx l = mx m := by
  by_cases hl : l = []
  · rw [hl, h.nil.mp hl]
  · exact mx_spec ((h _).mp (mx_mem hl)) fun y hy => mx_ge ((h y).mpr hy)
theorem Ss.mn {l m : List Int} (h : Ss l m) : mn l = mn m := by
  by_cases hl : l = []
  · rw [hl, h.nil.mp hl]
  · exact mn_spec ((h _).mp (mn_mem hl)) fun y hy => mn_le ((h y).mpr hy)
theorem sort_perm {a b : List Str} (h : a.Perm b) : sortS a = sortS b :=
  List.Perm.eq_of_pairwise (le := fun a b => leS a b = true) (fun a b _ _ => leS_antisymm a b) (sortS_pw a) (sortS_pw b) ((sortS_perm a).trans (h.trans (sortS_perm b).symm))
theorem Ss.once {l m : List Str} (h : Ss l m) : sortS (once l) = sortS (once m) :=
  sort_perm ((List.perm_ext_iff_of_nodup once_nd once_nd).mpr fun a => by rw [mem_once, mem_once]; exact h a)
theorem rising_sort {l : List Str} : rising (sortS (once l)) = true := by
  have : sortS (once l) = sortS (once (sortS (once l))) := sort_perm ((List.perm_ext_iff_of_nodup once_nd once_nd).mpr fun a => by rw [mem_once, mem_once, mem_sort, mem_once])
  simp only [rising, decide_eq_true_eq]; exact this
def kindsL : List Str := ["none", "truth", "number", "word", "row", "table"]
def intsD (ds : List D) : List Int := ds.filterMap fun d => match d with
  | .int i => some i
  | _ => none
def lenD : D → Int
  | .str z => z.length
  | .lst ds => ds.length
  | .dct kvs => kvs.length
  | _ => 0
def itemsD : D → List D
  | .lst ds => ds
  | _ => []
def keysD : D → List Str
  | .dct kvs => keysOf kvs
  | _ => []
def tvD (z : Str) (d : D) : Option D := match d with
  | .dct kvs => valD kvs (.inr z)
  | _ => none
def allKeys (ts : List D) : List Str := sortS (once (ts.flatMap keysD))
def entD (f : List D → D) (ts : List D) (z : Str) : D := .tup [.str z, f (ts.filterMap (tvD z)), .bl (ts.all fun t => (tvD z t).isSome)]
def kD (f : List D → D) (w : Str) (ts : List D) : D :=
  if w = "number" then .tup [.str "number", .int (mn (intsD ts)), .int (mx (intsD ts))]
  else if w = "word" then .tup [.str "word", .int (mx (ts.map lenD))]
  else if w = "row" then .tup [.str "row", f (ts.flatMap itemsD), .int (mn (ts.map lenD)), .int (mx (ts.map lenD))]
  else if w = "table" then .tup [.str "table", .tup ((allKeys ts).map (entD f ts)), .non]
  else .tup [.str w]
def ofK (ds : List D) (w : Str) : List D := ds.filter fun d => decide (kindD d = w)
def partK (f : List D → D) (ds : List D) (w : Str) : Option D := if ofK ds w = [] then none else some (kD f w (ofK ds w))
def partsD (f : List D → D) (ds : List D) : List D := kindsL.filterMap (partK f ds)
def orD (l : List D) : D := match l with
  | [p] => p
  | l => .tup [.str "or", .tup l]
def lsD : Nat → List D → D
  | 0, ds => orD (partsD (fun _ => .non) ds)
  | n + 1, ds => orD (partsD (lsD n) ds)
theorem kD_same {f : List D → D} (hf : ∀ l m, Ss l m → f l = f m) {w : Str} {l m : List D} (h : Ss l m) : kD f w l = kD f w m := by
  have e1 : intsD l = intsD l := rfl
  have h1 : Ss (intsD l) (intsD m) := h.fmap _
  have h2 := h.map lenD
  have e3 := hf _ _ (h.flat itemsD)
  have e4 : allKeys l = allKeys m := (h.flat keysD).once
  have e5 : entD f l = entD f m := by
    funext z
    simp only [entD]
    rw [hf _ _ (h.fmap (tvD z)), h.all]
  simp only [kD, h1.mn, h1.mx, h2.mn, h2.mx, e3, e4, e5]
theorem parts_same {f : List D → D} (hf : ∀ l m, Ss l m → f l = f m) {l m : List D} (h : Ss l m) : partsD f l = partsD f m := by
  have : partK f l = partK f m := by
    funext w
    have hw : Ss (ofK l w) (ofK m w) := h.filter _
    simp only [partK, kD_same hf hw]
    by_cases e : ofK l w = []
    · rw [if_pos e, if_pos (hw.nil.mp e)]
    · rw [if_neg e, if_neg fun e2 => e (hw.nil.mpr e2)]
  simp only [partsD, this]
theorem ls_same : ∀ {n : Nat} {l m : List D}, Ss l m → lsD n l = lsD n m
  | 0, l, m, h => by simp only [lsD, parts_same (f := fun _ => D.non) (fun _ _ _ => rfl) h]
  | n + 1, l, m, h => by simp only [lsD, parts_same (fun _ _ h => ls_same h) h]
end VL
set_option linter.all false
set_option maxRecDepth 100000
set_option maxHeartbeats 400000
namespace VL
open PySem PySem.Spec PyProof.Rows L2
theorem of_mem {ds : List D} {w : Str} {d : D} : d ∈ ofK ds w ↔ d ∈ ds ∧ kindD d = w := by simp [ofK]
theorem parts_mem {f : List D → D} {ds : List D} {p : D} (h : p ∈ partsD f ds) : ∃ w, w ∈ kindsL ∧ ofK ds w ≠ [] ∧ p = kD f w (ofK ds w) := by
  obtain ⟨w, hw, e⟩ := List.mem_filterMap.mp h
  unfold partK at e
  split at e
  · cases e
  · rename_i hne; simp only [Option.some.injEq] at e; exact ⟨w, hw, hne, e.symm⟩
theorem parts_of {f : List D → D} {ds : List D} {w : Str} (hw : w ∈ kindsL) (hne : ofK ds w ≠ []) : kD f w (ofK ds w) ∈ partsD f ds :=
  List.mem_filterMap.mpr ⟨w, hw, by unfold partK; rw [if_neg hne]⟩
theorem parts_len {f : List D → D} {ds : List D} : (partsD f ds).length ≤ 6 := Nat.le_trans (List.length_filterMap_le _ _) (by simp [kindsL])
/-- what holds of the shapes of the kinds holds of their join -/
theorem or_sh {r : Nat} {l : List D} (h : ∀ p ∈ l, isSh (r + 1) p = true) : isSh (r + 2) (orD l) = true := by
  unfold orD
  split
  · exact isSh_mono (h _ (by simp))
  · rw [isSh_or, List.all_eq_true]; exact h
theorem or_sf {r : Nat} {l : List D} (h : ∀ p ∈ l, Sf (r + 1) p) (hs : ∀ {p}, Sf (r + 1) p → Sf (r + 2) p) (hl : l.length ≤ 6) : Sf (r + 2) (orD l) := by
  unfold orD
  split
  · exact hs (h _ (by simp))
  · exact .or h (by omega)
theorem or_fits {r : Nat} {l : List D} {p t : D} (hp : p ∈ l) (h1 : fits' (r + 1) p t = true) (h2 : fits' r p t = true) : fits' (r + 1) (orD l) t = true := by
  unfold orD
  split
  · simp at hp; subst hp; exact h1
  · show (l.any fun s => fits' r s t) = true
    exact List.any_eq_true.mpr ⟨p, hp, h2⟩
/-! ## a shape's look one more within -/
mutual
theorem sf_mono : ∀ {n : Nat} {d : D}, Sf n d → Sf (n + 1) d
  | _, _, .nil => .nil
  | _, _, .one h => .one h
  | _, _, .bad h hl => .bad h hl
  | _, _, .num => .num
  | _, _, .word => .word
  | _, _, .row h => .row (sf_mono h)
  | _, _, .tab h hl hq => .tab (fun e he => ef_mono (h e he)) hl (fun hn => sf_mono (hq hn))
  | _, _, .or h hl => .or (fun s hs => sf_mono (h s hs)) hl
theorem ef_mono : ∀ {n : Nat} {d : D}, Ef n d → Ef (n + 1) d
  | _, _, .bad h => .bad h
  | _, _, .ok hk h => .ok hk (sf_mono h)
end
theorem few0_kind {d : D} (h : few 0 d = true) : kindD d ≠ "row" ∧ kindD d ≠ "table" := by
  cases d <;> simp [few] at h <;> simp
/-- numbers, words, rows, tables of few things -/
theorem few_of {n : Nat} {ds : List D} {w : Str} (h : ∀ d ∈ ds, few n d = true) : ∀ d ∈ ofK ds w, few n d = true ∧ kindD d = w := fun d hd => ⟨h d (of_mem.mp hd).1, (of_mem.mp hd).2⟩
theorem few_num {n : Nat} {d : D} (h : few n d = true) (hk : kindD d = "number") : ∃ i, d = .int i ∧ -1000 ≤ i ∧ i ≤ 1000 := by
  obtain ⟨i, rfl⟩ := kind_int (few_dat h) hk
  exact ⟨i, rfl, few_int h⟩
theorem few_wd {n : Nat} {d : D} (h : few n d = true) (hk : kindD d = "word") : ∃ z, d = .str z ∧ z.length ≤ 10 := by
  obtain ⟨i, rfl⟩ := kind_wd (few_dat h) hk
  exact ⟨i, rfl, (few_str h).2⟩
theorem few_rw {n : Nat} {d : D} (h : few n d = true) (hk : kindD d = "row") : ∃ m ds, n = m + 1 ∧ d = .lst ds ∧ ds.length ≤ 4 ∧ ∀ x ∈ ds, few m x = true := by
  cases n with
  | zero => exact absurd hk (few0_kind h).1
  | succ n =>
    obtain ⟨m, ds, e, rfl, _⟩ := kind_row (few_dat h) hk
    rw [few_lst] at h
    exact ⟨n, ds, rfl, rfl, h.1, h.2⟩
theorem few_tb {n : Nat} {d : D} (h : few n d = true) (hk : kindD d = "table") : ∃ m kvs, n = m + 1 ∧ d = .dct kvs ∧ kvs.length ≤ 3 ∧ (∀ p ∈ kvs, p.1 ∈ abc ∧ few m p.2 = true) ∧ (kvs.map (·.1)).Nodup := by
  cases n with
  | zero => exact absurd hk (few0_kind h).2
  | succ n =>
    obtain ⟨m, ds, e, rfl, _⟩ := kind_table (few_dat h) hk
    have hl := few_len h
    rw [few_dct] at h
    exact ⟨n, ds, rfl, rfl, hl, h.1, h.2⟩
theorem ints_map {ts : List D} (h : ∀ d ∈ ts, ∃ i, d = .int i) : ts = (intsD ts).map .int := by
  induction ts with
  | nil => rfl
  | cons d ts ih =>
    obtain ⟨i, rfl⟩ := h d (by simp)
    have := ih fun x hx => h x (by simp [hx])
    simp only [intsD, List.filterMap_cons, List.map_cons] at this ⊢
    rw [← this]
theorem ints_mem {ts : List D} {i : Int} : i ∈ intsD ts ↔ .int i ∈ ts := by
  simp only [intsD, List.mem_filterMap]
  constructor
  · rintro ⟨d, hd, e⟩
    cases d <;> simp at e
    subst e; exact hd
  · intro h; exact ⟨_, h, rfl⟩
theorem keys_word {n : Nat} {ts : List D} (h : ∀ d ∈ ts, few n d = true ∧ kindD d = "table") {z : Str} (hz : z ∈ allKeys ts) : isWord z = true ∧ (Sum.inr z : Key) ∈ abc := by
  rw [allKeys, mem_sort, mem_once, List.mem_flatMap] at hz
  obtain ⟨d, hd, hz⟩ := hz
  obtain ⟨m, kvs, rfl, rfl, _, hp, _⟩ := few_tb (h d hd).1 (h d hd).2
  obtain ⟨p, hpm, rfl⟩ := List.mem_map.mp hz
  have hw := abc_word (hp p hpm).1
  exact ⟨hw.1, by rw [← hw.2.2]; exact (hp p hpm).1⟩
theorem tv_few {n : Nat} {ts : List D} {z : Str} (h : ∀ d ∈ ts, few (n + 1) d = true) : ∀ x ∈ ts.filterMap (tvD z), few n x = true := fun x hx => by
  obtain ⟨d, hd, e⟩ := List.mem_filterMap.mp hx
  have hf := h d hd
  cases d with
  | dct kvs => rw [few_dct] at hf; exact (hf.1 _ (valD_mem e)).2
  | _ => cases e
theorem items_few {n : Nat} {ts : List D} (h : ∀ d ∈ ts, few (n + 1) d = true) : ∀ x ∈ ts.flatMap itemsD, few n x = true := fun x hx => by
  obtain ⟨d, hd, e⟩ := List.mem_flatMap.mp hx
  have hf := h d hd
  cases d with
  | lst ds => rw [few_lst] at hf; exact hf.2 _ e
  | _ => simp [itemsD] at e
theorem len_few {n : Nat} {ts : List D} {w : Str} (h : ∀ d ∈ ts, few n d = true ∧ kindD d = w) (hw : w = "word" ∨ w = "row") : ∀ y ∈ ts.map lenD, 0 ≤ y ∧ y ≤ 10 := fun y hy => by
  obtain ⟨d, hd, rfl⟩ := List.mem_map.mp hy
  obtain ⟨h1, h2⟩ := h d hd
  rcases hw with rfl | rfl
  · obtain ⟨z, rfl, hz⟩ := few_wd h1 h2
    simp only [lenD]; omega
  · obtain ⟨m, ds, rfl, rfl, hl, _⟩ := few_rw h1 h2
    simp only [lenD]; omega
/-- the shape of a kind is one -/
theorem kD_sh {n r : Nat} {f : List D → D} {w : Str} {ts : List D} (hne : ts ≠ []) (hw : w ∈ kindsL) (h : ∀ d ∈ ts, few n d = true ∧ kindD d = w)
    (hf : ∀ m, n = m + 1 → ∀ l, (∀ d ∈ l, few m d = true) → isSh (r + 2) (f l) = true ∧ Sf (r + 2) (f l)) : isSh (r + 3) (kD f w ts) = true ∧ Sf (r + 3) (kD f w ts) := by
  simp only [kindsL, List.mem_cons, List.not_mem_nil, or_false] at hw
  rcases hw with rfl | rfl | rfl | rfl | rfl | rfl
  · exact ⟨by simp [kD, isSh, shOf], by simp [kD]; exact .one (.inr (.inl rfl))⟩
  · exact ⟨by simp [kD, isSh, shOf], by simp [kD]; exact .one (.inr (.inr rfl))⟩
  · have e := ints_map (ts := ts) fun d hd => by obtain ⟨i, rfl, _⟩ := few_num (h d hd).1 (h d hd).2; exact ⟨i, rfl⟩
    have hne2 : intsD ts ≠ [] := fun e2 => hne (by rw [e, e2]; rfl)
    have b : ∀ i ∈ intsD ts, -1000 ≤ i ∧ i ≤ 1000 := fun i hi => by
      have := h _ (ints_mem.mp hi)
      exact few_int this.1
    have b1 := b _ (mn_mem hne2)
    have b2 := b _ (mx_mem hne2)
    have b3 := mn_le (mx_mem hne2)
    exact ⟨by simp [kD]; rw [isSh_num]; simp [MOST]; omega, by simp [kD]; exact .num⟩
  · have hne2 : ts.map lenD ≠ [] := by simpa using hne
    have b2 := len_few h (.inl rfl) _ (mx_mem hne2)
    exact ⟨by simp [kD]; rw [isSh_word]; simp; omega, by simp [kD]; exact .word⟩
  · have hne2 : ts.map lenD ≠ [] := by simpa using hne
    have b1 := len_few h (.inr rfl) _ (mn_mem hne2)
    have b2 := len_few h (.inr rfl) _ (mx_mem hne2)
    have b3 := mn_le (mx_mem hne2)
    obtain ⟨d, hd⟩ := List.exists_mem_of_ne_nil _ hne
    obtain ⟨m, _, rfl, _⟩ := few_rw (h d hd).1 (h d hd).2
    obtain ⟨q1, q2⟩ := hf m rfl _ (items_few fun d hd => (h d hd).1)
    exact ⟨by simp [kD]; rw [isSh_row, q1]; simp; omega, by simp [kD]; exact .row q2⟩
  · obtain ⟨d, hd⟩ := List.exists_mem_of_ne_nil _ hne
    obtain ⟨m, _, rfl, _⟩ := few_tb (h d hd).1 (h d hd).2
    have hent : ∀ e ∈ (allKeys ts).map (entD f ts), isEn (r + 2) e = true ∧ Ef (r + 2) e := fun e he => by
      obtain ⟨z, hz, rfl⟩ := List.mem_map.mp he
      have hzw := (keys_word h hz).1
      obtain ⟨q1, q2⟩ := hf m rfl _ (tv_few (z := z) fun d hd => (h d hd).1)
      exact ⟨by simp [entD, isEn, enOf, hzw, q1], .ok (by have := word_len hzw; omega) q2⟩
    have hk : keysT ((allKeys ts).map (entD f ts)) = allKeys ts := by
      rw [keysT_map fun e he => (hent e he).1, List.map_map]
      exact List.map_id'' (fun z => rfl) _
    have hr : rising (keysT ((allKeys ts).map (entD f ts))) = true := by rw [hk]; exact rising_sort
    have hlen : (allKeys ts).length ≤ 3 := by
      have nd : (allKeys ts).Nodup := (sortS_perm _).nodup_iff.mpr once_nd
      have := abc_len (l := (allKeys ts).map .inr) (fun k hk => by obtain ⟨z, hz, rfl⟩ := List.mem_map.mp hk; exact (keys_word h hz).2) (List.Pairwise.map _ (fun a b hab e => hab (Sum.inr.inj e)) nd)
      simpa using this
    refine ⟨?_, ?_⟩
    · simp only [kD]; simp; rw [isSh_tab, List.all_eq_true.mpr fun e he => (hent e he).1, hr]; rfl
    · simp only [kD]; simp
      exact .tab (fun e he => (hent e he).2) (by simp; omega) (fun h => absurd rfl h)
end VL
set_option linter.all false
set_option maxRecDepth 100000
set_option maxHeartbeats 400000
namespace VL
open PySem PySem.Spec PyProof.Rows L2
theorem ls_sh : ∀ {n : Nat} {ds : List D}, (∀ d ∈ ds, few n d = true) → isSh (2 * n + 4) (lsD n ds) = true ∧ Sf (2 * n + 4) (lsD n ds)
  | 0, ds, h => by
    have hp : ∀ p ∈ partsD (fun _ => D.non) ds, isSh 3 p = true ∧ Sf 3 p := fun p hp => by
      obtain ⟨w, hw, hne, rfl⟩ := parts_mem hp
      exact kD_sh (r := 0) hne hw (few_of h) fun m e => by cases e
    exact ⟨or_sh (r := 2) fun p q => (hp p q).1, or_sf (r := 2) (fun p q => (hp p q).2) sf_mono parts_len⟩
  | n + 1, ds, h => by
    have hp : ∀ p ∈ partsD (lsD n) ds, isSh (2 * n + 5) p = true ∧ Sf (2 * n + 5) p := fun p hp => by
      obtain ⟨w, hw, hne, rfl⟩ := parts_mem hp
      exact kD_sh (r := 2 * n + 2) hne hw (few_of h) fun m e l hl => by cases e; exact ls_sh hl
    exact ⟨or_sh (r := 2 * n + 4) fun p q => (hp p q).1, or_sf (r := 2 * n + 4) (fun p q => (hp p q).2) sf_mono parts_len⟩
theorem keysT_ent {f : List D → D} {ts : List D} : ∀ {l : List Str}, keysT (l.map (entD f ts)) = l
  | [] => rfl
  | z :: l => by
    have := keysT_ent (f := f) (ts := ts) (l := l)
    simp only [keysT, List.map_cons, List.filterMap_cons, entD] at this ⊢
    rw [this]
theorem kD_fits {n r : Nat} {f : List D → D} {w : Str} {ts : List D} (hw : w ∈ kindsL) (h : ∀ d ∈ ts, few n d = true ∧ kindD d = w)
    (hf : ∀ m, n = m + 1 → ∀ l, (∀ d ∈ l, few m d = true) → ∀ x ∈ l, fits' r (f l) x = true) {t : D} (ht : t ∈ ts) : fits' (r + 1) (kD f w ts) t = true := by
  obtain ⟨tf, tk⟩ := h t ht
  show fitOf (fits' r) (kD f w ts) t = true
  simp only [kindsL, List.mem_cons, List.not_mem_nil, or_false] at hw
  rcases hw with rfl | rfl | rfl | rfl | rfl | rfl
  · simp [kD, fitOf, tk]
  · simp [kD, fitOf, tk]
  · obtain ⟨i, rfl, _⟩ := few_num tf tk
    have h1 := mn_le (ints_mem.mpr ht)
    have h2 := mx_ge (ints_mem.mpr ht)
    simp [kD, fitOf, h1, h2]
  · obtain ⟨z, rfl, _⟩ := few_wd tf tk
    have h2 := mx_ge (List.mem_map.mpr ⟨_, ht, rfl⟩ : lenD (.str z) ∈ ts.map lenD)
    simp only [lenD] at h2
    simp [kD, fitOf, h2]
  · obtain ⟨m, ds, rfl, rfl, _, hds⟩ := few_rw tf tk
    have h1 := mn_le (List.mem_map.mpr ⟨_, ht, rfl⟩ : lenD (.lst ds) ∈ ts.map lenD)
    have h2 := mx_ge (List.mem_map.mpr ⟨_, ht, rfl⟩ : lenD (.lst ds) ∈ ts.map lenD)
    simp only [lenD] at h1 h2
    have h3 : ∀ x ∈ ds, fits' r (f (ts.flatMap itemsD)) x = true := fun x hx => hf m rfl _ (items_few fun d hd => (h d hd).1) x (List.mem_flatMap.mpr ⟨_, ht, hx⟩)
    have e : kD f "row" ts = .tup [.str "row", f (ts.flatMap itemsD), .int (mn (ts.map lenD)), .int (mx (ts.map lenD))] := by simp [kD]
    rw [e, fit_row]
    simp only [h1, h2, decide_true, Bool.true_and, Bool.and_true, List.all_eq_true]
    exact h3
  · obtain ⟨m, kvs, rfl, rfl, _, hp, nd⟩ := few_tb tf tk
    have e : kD f "table" ts = .tup [.str "table", .tup ((allKeys ts).map (entD f ts)), .non] := by simp [kD]
    rw [e, fit_tab]
    simp only
    rw [tabFit_eq, Bool.and_eq_true, List.all_eq_true, List.all_eq_true]
    refine ⟨fun e he => ?_, fun p hp' => ?_⟩
    · obtain ⟨z, hz, rfl⟩ := List.mem_map.mp he
      simp only [entD, fitE]
      cases hv : valD kvs (.inr z) with
      | some x => exact hf m rfl _ (tv_few (z := z) fun d hd => (h d hd).1) x (List.mem_filterMap.mpr ⟨_, ht, hv⟩)
      | none =>
        have : ts.all (fun t => (tvD z t).isSome) = false := by
          rw [Bool.eq_false_iff]; intro hh
          have := List.all_eq_true.mp hh _ ht
          simp only [tvD, hv] at this; cases this
        simp only [this]; rfl
    · have : keyS p.1 ∈ keysT ((allKeys ts).map (entD f ts)) := by
        rw [keysT_ent, allKeys, mem_sort, mem_once, List.mem_flatMap]
        exact ⟨_, ht, List.mem_map.mpr ⟨p, hp', rfl⟩⟩
      simp only [fitR, this, decide_true, Bool.true_or]
theorem kind_in {n : Nat} {d : D} (h : dat n d = true) : kindD d ∈ kindsL := by
  rcases dat_cases h with rfl | ⟨b, rfl⟩ | ⟨i, rfl⟩ | ⟨z, rfl, hz⟩ | ⟨m, ds, rfl, rfl, hl, hx⟩ | ⟨m, kvs, rfl, rfl, hl, hx, nd⟩ <;> simp [kindsL]
theorem ls_fits : ∀ {n r : Nat} {ds : List D}, (∀ d ∈ ds, few n d = true) → ∀ {d : D}, d ∈ ds → fits' (r + (2 * n + 2)) (lsD n ds) d = true
  | 0, r, ds, h, d, hd => by
    have hw := kind_in (few_dat (h d hd))
    have hm : d ∈ ofK ds (kindD d) := of_mem.mpr ⟨hd, rfl⟩
    have hp := parts_of (f := fun _ => D.non) hw (List.ne_nil_of_mem hm)
    have k : ∀ r, fits' (r + 1) (kD (fun _ => D.non) (kindD d) (ofK ds (kindD d))) d = true := fun r => kD_fits (n := 0) hw (few_of h) (fun m e => by cases e) hm
    exact or_fits (r := r + 1) hp (k _) (k _)
  | n + 1, r, ds, h, d, hd => by
    have hw := kind_in (few_dat (h d hd))
    have hm : d ∈ ofK ds (kindD d) := of_mem.mpr ⟨hd, rfl⟩
    have hp := parts_of (f := lsD n) hw (List.ne_nil_of_mem hm)
    have k : ∀ r, fits' (r + (2 * n + 2) + 1) (kD (lsD n) (kindD d) (ofK ds (kindD d))) d = true := fun r => kD_fits (n := n + 1) hw (few_of h) (fun m e l hl x hx => by cases e; exact ls_fits hl hx) hm
    have e1 := k (r + 1)
    have e2 := k r
    have a1 : r + 1 + (2 * n + 2) + 1 = (r + (2 * n + 2) + 1) + 1 := by omega
    have a2 : r + (2 * (n + 1) + 2) = (r + (2 * n + 2) + 1) + 1 := by omega
    rw [a1] at e1
    rw [a2]
    exact or_fits hp e1 e2
/-! ## shapes are plain -/
theorem pls_all {l : List D} : pls l = l.all pl := by
  induction l with
  | nil => simp [pls]
  | cons d l ih => simp [pls, ih]
theorem deps_le {l : List D} {m : Nat} (h : ∀ x ∈ l, dep x ≤ m) : deps l ≤ m := by
  induction l with
  | nil => simp [deps]
  | cons d l ih =>
    have := ih fun x hx => h x (by simp [hx])
    have := h d (by simp)
    simp only [deps]; omega
theorem sh_pl : ∀ {r : Nat} {s : D}, isSh r s = true → pl s = true ∧ dep s ≤ 3 * r
  | 0, s, h => by rw [sh_zero] at h; cases h
  | r + 1, s, h => by
    cases sh_form h with
    | one h => exact ⟨by simp [pl, pls], by simp [dep, deps]; omega⟩
    | num => exact ⟨by simp [pl, pls], by simp [dep, deps]; omega⟩
    | word => exact ⟨by simp [pl, pls], by simp [dep, deps]; omega⟩
    | row h1 h2 h3 h4 =>
      obtain ⟨a, b⟩ := sh_pl h4
      exact ⟨by simp [pl, pls, a], by simp [dep, deps]; omega⟩
    | tab h1 h2 h3 =>
      rename_i es q
      have he : ∀ e ∈ es, pl e = true ∧ dep e ≤ 3 * r + 1 := fun e hm => by
        obtain ⟨k, s, b, rfl, _, hs⟩ := isEn_form (h1 e hm)
        obtain ⟨a, b⟩ := sh_pl hs
        exact ⟨by simp [pl, pls, a], by simp [dep, deps]; omega⟩
      have hq : pl q = true ∧ dep q ≤ 3 * r := by
        by_cases hqn : q = .non
        · subst hqn; exact ⟨rfl, by simp [dep]⟩
        · exact sh_pl (rest_sh h3 hqn)
      have hd := deps_le fun e hm => (he e hm).2
      have hp : es.all pl = true := List.all_eq_true.mpr fun e hm => (he e hm).1
      exact ⟨by simp [pl, pls, hq.1, pls_all, -List.all_eq_true]; exact hp, by simp [dep, deps]; omega⟩
    | or h4 =>
      rename_i ss
      have hd := deps_le fun e hm => (sh_pl (h4 e hm)).2
      have hp : ss.all pl = true := List.all_eq_true.mpr fun e hm => (sh_pl (h4 e hm)).1
      exact ⟨by simp [pl, pls, pls_all, -List.all_eq_true]; exact hp, by simp [dep, deps]; omega⟩
theorem deqs_eq {l m : List D} (h : deqs l m = true) (hx : ∀ x ∈ l, ∀ y ∈ m, deq x y = true → x = y) : l = m := by
  induction l generalizing m with
  | nil => cases m with
    | nil => rfl
    | cons => simp [deqs] at h
  | cons x l ih =>
    cases m with
    | nil => simp [deqs] at h
    | cons y m =>
      simp only [deqs, Bool.and_eq_true] at h
      rw [hx x (by simp) y (by simp) h.1, ih h.2 fun a ha b hb => hx a (by simp [ha]) b (by simp [hb])]
theorem dq_len : ∀ {l m : List D}, deqs l m = true → l.length = m.length
  | [], [], _ => rfl
  | [], _ :: _, h => by simp [deqs] at h
  | _ :: _, [], h => by simp [deqs] at h
  | x :: l, y :: m, h => by
    rw [show deqs (x :: l) (y :: m) = (deq x y && deqs l m) by simp only [deqs], Bool.and_eq_true] at h
    simp [dq_len h.2]
theorem dq_cons {x y : D} {l m : List D} (h : deqs (x :: l) (y :: m) = true) : deq x y = true ∧ deqs l m = true := by
  rw [show deqs (x :: l) (y :: m) = (deq x y && deqs l m) by simp only [deqs], Bool.and_eq_true] at h
  exact h
theorem dq_tup {l m : List D} (h : deq (.tup l) (.tup m) = true) : deqs l m = true := by simpa only [deq] using h
theorem dq_int {a b : Int} (h : deq (.int a) (.int b) = true) : a = b := by simpa [deq] using h
theorem dq_str {a b : Str} (h : deq (.str a) (.str b) = true) : a = b := by simpa [deq] using h
theorem dq_bl {a b : Bool} (h : deq (.bl a) (.bl b) = true) : a = b := by simpa [deq] using h
theorem dq_head {a b : Str} {l m : List D} (h : deq (.tup (.str a :: l)) (.tup (.str b :: m)) = true) : a = b ∧ deqs l m = true ∧ l.length = m.length := by
  obtain ⟨h1, h2⟩ := dq_cons (dq_tup h)
  exact ⟨dq_str h1, h2, dq_len h2⟩
theorem dq_non {q : D} (h : deq .non q = true) : q = .non := by cases q <;> first | rfl | (simp [deq] at h)
theorem dq_non' {q : D} (h : deq q .non = true) : q = .non := by cases q <;> first | rfl | (simp [deq] at h)
theorem sh_deq {r : Nat} : ∀ {r' : Nat} {s t : D}, isSh r s = true → isSh r' t = true → deq s t = true → s = t := by
  induction r with
  | zero => intro r' s t h; rw [sh_zero] at h; cases h
  | succ r ih =>
    intro r' s t hs ht he
    cases r' with
    | zero => rw [sh_zero] at ht; cases ht
    | succ r' =>
    cases sh_form hs with
    | one w1 =>
      cases sh_form ht <;> obtain ⟨e1, e2, e3⟩ := dq_head he
      · rw [e1]
      all_goals simp at e3
    | num _ _ _ =>
      cases sh_form ht with
      | num _ _ _ =>
        obtain ⟨e1, e2, e3⟩ := dq_head he
        obtain ⟨e4, e5⟩ := dq_cons e2
        rw [dq_int e4, dq_int (dq_cons e5).1]
      | tab => obtain ⟨e1, e2, e3⟩ := dq_head he; simp at e1
      | _ => obtain ⟨e1, e2, e3⟩ := dq_head he; simp at e3
    | word _ _ =>
      cases sh_form ht with
      | word _ _ =>
        obtain ⟨e1, e2, e3⟩ := dq_head he
        rw [dq_int (dq_cons e2).1]
      | or => obtain ⟨e1, e2, e3⟩ := dq_head he; simp at e1
      | _ => obtain ⟨e1, e2, e3⟩ := dq_head he; simp at e3
    | row h1 h2 h3 h4 =>
      cases sh_form ht with
      | row _ _ _ g4 =>
        obtain ⟨e1, e2, e3⟩ := dq_head he
        obtain ⟨e4, e5⟩ := dq_cons e2
        obtain ⟨e6, e7⟩ := dq_cons e5
        rw [ih h4 g4 e4, dq_int e6, dq_int (dq_cons e7).1]
      | _ => obtain ⟨e1, e2, e3⟩ := dq_head he; simp at e3
    | tab h1 h2 h3 =>
      cases sh_form ht with
      | tab g1 g2 g3 =>
        rename_i es q es' q'
        obtain ⟨_, e2, e3⟩ := dq_head he
        obtain ⟨e4, e5⟩ := dq_cons e2
        have e6 := (dq_cons e5).1
        have e1 : es = es' := deqs_eq (dq_tup e4) fun x hx y hy h => by
          obtain ⟨k, s, b, rfl, _, hs⟩ := isEn_form (h1 x hx)
          obtain ⟨k', s', b', rfl, _, hs'⟩ := isEn_form (g1 y hy)
          obtain ⟨f1, f2, f3⟩ := dq_head h
          obtain ⟨f4, f5⟩ := dq_cons f2
          rw [f1, ih hs hs' f4, dq_bl (dq_cons f5).1]
        have e2 : q = q' := by
          by_cases hq : q = .non
          · subst hq; exact (dq_non e6).symm
          · have a1 := rest_sh h3 hq
            by_cases hq' : q' = .non
            · subst hq'; exact dq_non' e6
            · exact ih a1 (rest_sh g3 hq') e6
        rw [e1, e2]
      | num => obtain ⟨e1, e2, e3⟩ := dq_head he; simp at e1
      | _ => obtain ⟨e1, e2, e3⟩ := dq_head he; simp at e3
    | or h1 =>
      cases sh_form ht with
      | or g1 =>
        obtain ⟨e1, e2, e3⟩ := dq_head he
        rw [deqs_eq (dq_tup (dq_cons e2).1) fun x hx y hy h => ih (h1 x hx) (g1 y hy) h]
      | word => obtain ⟨e1, e2, e3⟩ := dq_head he; simp at e1
      | _ => obtain ⟨e1, e2, e3⟩ := dq_head he; simp at e3
theorem sh_veq {r r' : Nat} {s t : D} (hs : isSh r s = true) (ht : isSh r' t = true) (hr : r ≤ 30) : vEq s t = some (.sh (.bl (deq s t))) ∧ vNe s t = some (.sh (.bl (!deq s t))) := by
  obtain ⟨a, b⟩ := sh_pl hs
  obtain ⟨a', b'⟩ := sh_pl ht
  have : eqOk s t = true := by simp [eqOk, a, a']; omega
  simp [vEq, vNe, eqx, this]
theorem sh_refl {r : Nat} {s : D} (hs : isSh r s = true) : deq s s = true := deq_refl (sh_pl hs).1
end VL
set_option linter.all false
set_option maxRecDepth 100000
set_option maxHeartbeats 1000000
namespace VL
open PySem PySem.Spec PyProof.Rows L2
def fN : Nat → List D → D
  | 0 => fun _ => .non
  | n + 1 => lsD n
theorem ls_def {n : Nat} {ds : List D} : lsD n ds = orD (partsD (fN n) ds) := by cases n <;> rfl
def S_shape_of (k : Nat) : VSp := fun args Q _ => ∃ (n : Nat) (ds : List D), args = [.sh (.lst ds)] ∧ (∀ d ∈ ds, few n d = true) ∧ ds.length * 4 ^ n ≤ 1200 ∧ n < k ∧ Q (.sh (lsD n ds)) []
def S_shape_of_rows (k : Nat) : VSp := fun args Q _ => ∃ (n : Nat) (ts : List D), args = [.sh (.lst ts)] ∧ (∀ d ∈ ts, few (n + 1) d = true ∧ kindD d = "row") ∧ ts ≠ [] ∧ ts.length * 4 ^ (n + 1) ≤ 1200 ∧ n < k ∧ Q (.sh (kD (lsD n) "row" ts)) []
def S_shape_of_tables (k : Nat) : VSp := fun args Q _ => ∃ (n : Nat) (ts : List D), args = [.sh (.lst ts)] ∧ (∀ d ∈ ts, few (n + 1) d = true ∧ kindD d = "table") ∧ ts ≠ [] ∧ ts.length * 4 ^ (n + 1) ≤ 1200 ∧ n < k ∧ Q (.sh (kD (lsD n) "table" ts)) []
def S_shape_of_kind (k : Nat) : VSp := fun args Q _ => ∃ (n : Nat) (w : Str) (ts : List D), args = [.sh (.str w), .sh (.lst ts)] ∧ w ∈ kindsL ∧ (∀ d ∈ ts, few n d = true ∧ kindD d = w) ∧ ts ≠ [] ∧ ts.length * 4 ^ n ≤ 1200 ∧ n < k + 1 ∧ Q (.sh (kD (fN n) w ts)) []
theorem pow_le {n a : Nat} (h : a * 4 ^ n ≤ 1200) : a ≤ 1200 := by
  have : 0 < 4 ^ n := Nat.pow_pos (by omega)
  exact Nat.le_trans (Nat.le_mul_of_pos_right a this) h
theorem pow_le4 {n a b : Nat} (h : a * 4 ^ (n + 1) ≤ 1200) (hb : b ≤ 4 * a) : b * 4 ^ n ≤ 1200 := by
  have : b * 4 ^ n ≤ (4 * a) * 4 ^ n := Nat.mul_le_mul_right _ hb
  have e : a * 4 ^ (n + 1) = (4 * a) * 4 ^ n := by rw [Nat.pow_succ, Nat.mul_comm 4 a, Nat.mul_assoc, Nat.mul_comm 4]
  omega
theorem pow_le1 {n a b : Nat} (h : a * 4 ^ n ≤ 1200) (hb : b ≤ a) : b * 4 ^ n ≤ 1200 := Nat.le_trans (Nat.mul_le_mul_right _ hb) h
theorem flat_len {β : Type} {f : D → List β} {ts : List D} {c : Nat} (h : ∀ d ∈ ts, (f d).length ≤ c) : (ts.flatMap f).length ≤ c * ts.length := by
  induction ts with
  | nil => simp
  | cons d ts ih =>
    have := ih fun x hx => h x (by simp [hx])
    have := h d (by simp)
    simp only [List.flatMap_cons, List.length_append, List.length_cons, Nat.mul_succ]; omega
theorem vmin_ok {l : List Int} (h : l ≠ []) : vMin [.lst (l.map .int)] = some (.sh (.int (mn l))) := by
  simp [vMin, dLs, asInts_map, h]
theorem vmax_ok {l : List Int} (h : l ≠ []) : vMax [.lst (l.map .int)] = some (.sh (.int (mx l))) := by
  simp [vMax, dLs, asInts_map, h]
theorem pure_shape_of_rows {k : Nat} : Pure (S_shape_of_rows k) 1 4 (T_shape_of_rows (S_shape_of k)) := by
  rintro args QV EV aa1 aa2 ⟨n, ts, rfl, h, hne, hl, hk, hq⟩
  have hl1 := pow_le hl
  have hf : ∀ d ∈ ts, (itemsD d).length ≤ 4 := fun d hd => by
    obtain ⟨m, ds, e, rfl, h4, _⟩ := few_rw (h d hd).1 (h d hd).2
    exact h4
  have hfl := flat_len hf
  have hkD : kD (lsD n) "row" ts = .tup [.str "row", lsD n (ts.flatMap itemsD), .int (mn (ts.map lenD)), .int (mx (ts.map lenD))] := by simp [kD]
  rw [hkD] at hq
  simp [T_shape_of_rows, padE, K_shape_of_rows_3]
  refine ⟨fun j env => ∃ s2, env = [.sh (.lst ts), .ow (.lst ((ts.take j).flatMap itemsD)), s2, .un], ⟨.un, rfl⟩, ?_, ?_⟩
  · rintro j d env hj ⟨s2, rfl⟩
    obtain ⟨m, ds, e, rfl, h4, _⟩ := few_rw (h d (List.mem_of_getElem? hj)).1 (h d (List.mem_of_getElem? hj)).2
    have e1 : (ts.take (j + 1)).flatMap itemsD = (ts.take j).flatMap itemsD ++ ds := by
      rw [List.take_add_one, hj]; simp [itemsD]
    have e2 : ((ts.take j).flatMap itemsD).length ≤ 4 * (ts.take j).length := flat_len fun d hd => hf d (List.mem_of_mem_take hd)
    have e4 : (ts.take j).length ≤ ts.length := by simp; omega
    have e3 : fExt (.lst ((ts.take j).flatMap itemsD)) [.lst ds] = some (.non, .lst ((ts.take (j + 1)).flatMap itemsD)) := by
      simp only [fExt]
      rw [if_pos (by rw [fits_def]; omega), e1]
    simp [e3]
  · rintro env ⟨s2, rfl⟩
    rw [List.take_length]
    simp [K_shape_of_rows_2]
    refine bLc_map (s0 := s2) ts id (fun d => .int (lenD d)) (by simp) (by omega) rfl (fun d hd Q hQ => ?_) ?_
    · obtain ⟨m, ds, e, rfl, h4, _⟩ := few_rw (h d hd).1 (h d hd).2
      simp
      exact hQ
    · have e1 : (ts.map fun d => D.int (lenD d)) = (ts.map lenD).map .int := by rw [List.map_map]; rfl
      have hne2 : ts.map lenD ≠ [] := by simpa using hne
      have m1 : vMin [D.lst (List.map (D.int ∘ lenD) ts)] = some (.sh (.int (mn (ts.map lenD)))) := by rw [← List.map_map]; exact vmin_ok hne2
      have m2 : vMax [D.lst (List.map (D.int ∘ lenD) ts)] = some (.sh (.int (mx (ts.map lenD)))) := by rw [← List.map_map]; exact vmax_ok hne2
      rw [e1]
      simp [K_shape_of_rows_1, m1, m2]
      refine clI ⟨n, ts.flatMap itemsD, rfl, items_few fun d hd => (h d hd).1, pow_le4 hl hfl, hk, ?_⟩
      obtain ⟨q1, q2⟩ := ls_sh (items_few fun d hd => (h d hd).1)
      simp [sf_ins q2]
      exact hq
theorem bLc_fm {α : Type} {ds : List D} {i : Nat} {tt : VTT} {env : En} {s0 : Sv} {Q : Sv → En → Prop} {E : XQ} (l : List α) (f g : α → D) (p : α → Bool) (hds : ds = l.map f) (hl : l.length ≤ 16777216) (h0 : env[i]? = some s0)
    (hstep : ∀ x ∈ l, ∀ Q : Bool → En → Prop, Q (p x) (env.set i (.sh (f x))) → tt (env.set i (.sh (f x))) Q (fun _ _ _ => False)) (te : VTE) (hte : ∀ x ∈ l, p x = true → ∀ Q : D → En → Prop, Q (g x) (env.set i (.sh (f x))) → te (env.set i (.sh (f x))) Q (fun _ _ _ => False))
    (hq : Q (.ow (.lst ((l.filter p).map g))) (env.set i (keepS s0))) : bLc ds i tt te env Q E := by
  subst hds
  refine ⟨by simpa using hl, s0, h0, fun n acc e => e = env.set i (keepS s0) ∧ acc = ((l.take n).filter p).map g, ⟨rfl, rfl⟩, ?_, ?_⟩
  · rintro n d acc e hd ⟨rfl, rfl⟩ he
    rw [List.getElem?_map, Option.map_eq_some_iff] at hd
    obtain ⟨x, hx, rfl⟩ := hd
    rw [List.set_set]
    refine hstep x (List.mem_of_getElem? hx) _ ?_
    cases e : p x with
    | true =>
      refine hte x (List.mem_of_getElem? hx) e _ ⟨by rw [List.set_set], ?_⟩
      rw [List.take_add_one, hx]; simp [e]
    | false =>
      simp only [Bool.false_eq_true, if_false]
      refine ⟨by rw [List.set_set], ?_⟩
      rw [List.take_add_one, hx]; simp [e]
  · rintro acc e ⟨rfl, rfl⟩ he
    simpa using hq
theorem fm_eq {z : Str} {ts : List D} : ((ts.filter fun t => (tvD z t).isSome).map fun t => (tvD z t).getD .non) = ts.filterMap (tvD z) := by
  induction ts with
  | nil => rfl
  | cons t ts ih =>
    cases h : tvD z t with
    | none => simp [h, ih]
    | some x => simp [h, ih]
theorem fm_all {z : Str} {ts : List D} : decide ((ts.filterMap (tvD z)).length = ts.length) = ts.all fun t => (tvD z t).isSome := by
  have hle : ∀ l : List D, (l.filterMap (tvD z)).length ≤ l.length := fun l => List.length_filterMap_le _ _
  induction ts with
  | nil => rfl
  | cons t ts ih =>
    cases h : tvD z t with
    | none =>
      have := hle ts
      simp [h]; omega
    | some x => simp [h]; rw [← ih]; simp
theorem pure_shape_of_tables {k : Nat} : Pure (S_shape_of_tables k) 1 6 (T_shape_of_tables (S_shape_of k)) := by
  rintro args QV EV aa1 aa2 ⟨n, ts, rfl, h, hne, hl, hk, hq⟩
  have hl1 := pow_le hl
  have hf : ∀ d ∈ ts, (keysD d).length ≤ 3 := fun d hd => by
    obtain ⟨m, kvs, e, rfl, h4, _⟩ := few_tb (h d hd).1 (h d hd).2
    simp [keysD, keys_len]; exact h4
  have hfl := flat_len hf
  have hkD : kD (lsD n) "table" ts = .tup [.str "table", .tup ((allKeys ts).map (entD (lsD n) ts)), .non] := by simp [kD]
  rw [hkD] at hq
  simp [T_shape_of_tables, padE, K_shape_of_tables_5]
  refine ⟨fun j env => ∃ s2, env = [.sh (.lst ts), .ow (.lst (((ts.take j).flatMap keysD).map .str)), s2, .un, .un, .un], ⟨.un, rfl⟩, ?_, ?_⟩
  · rintro j d env hj ⟨s2, rfl⟩
    obtain ⟨m, kvs, e, rfl, h4, _⟩ := few_tb (h d (List.mem_of_getElem? hj)).1 (h d (List.mem_of_getElem? hj)).2
    have hdd := few_dat (h _ (List.mem_of_getElem? hj)).1
    obtain ⟨_, hx, nd⟩ := dat_dct.mp hdd
    have e1 : ((ts.take (j + 1)).flatMap keysD).map D.str = ((ts.take j).flatMap keysD).map .str ++ (keysOf kvs).map .str := by
      rw [List.take_add_one, hj]; simp [keysD]
    have e2 : ((ts.take j).flatMap keysD).length ≤ 3 * (ts.take j).length := flat_len fun d hd => hf d (List.mem_of_mem_take hd)
    have e4 : (ts.take j).length ≤ ts.length := by simp; omega
    have e3 : fExt (.lst (((ts.take j).flatMap keysD).map .str)) [.lst ((keysOf kvs).map .str)] = some (.non, .lst (((ts.take (j + 1)).flatMap keysD).map .str)) := by
      simp only [fExt]
      rw [if_pos (by rw [fits_def, List.length_map, List.length_map, keys_len]; omega), e1]
    simp [keys_fit hx, vwD_keys hx, e3]
  · rintro env ⟨s2, rfl⟩
    rw [List.take_length]
    have hnd : (allKeys ts).Nodup := (sortS_perm _).nodup_iff.mpr once_nd
    have hkl : (allKeys ts).length ≤ 3 := by
      have := abc_len (l := (allKeys ts).map .inr) (fun k hk => by obtain ⟨z, hz, rfl⟩ := List.mem_map.mp hk; exact (keys_word h hz).2) (List.Pairwise.map _ (fun a b hab e => hab (Sum.inr.inj e)) hnd)
      simpa using this
    simp [K_shape_of_tables_4, K_shape_of_tables_3, ss_strs (show ((ts.flatMap keysD)).length ≤ 4000 by omega)]
    have eak : sortS (once (ts.flatMap keysD)) = allKeys ts := rfl
    rw [eak]
    refine ⟨fun j env => ∃ s2 s4 s5, env = [.sh (.lst ts), .ow (.lst ((ts.flatMap keysD).map .str)), s2, .ow (.lst (((allKeys ts).take j).map (entD (lsD n) ts))), s4, s5], ⟨s2, .un, .un, by simp⟩, ?_, ?_⟩
    · rintro j d env hj ⟨s2, s4, s5, rfl⟩
      rw [List.getElem?_map, Option.map_eq_some_iff] at hj
      obtain ⟨z, hz, rfl⟩ := hj
      have hzm := List.mem_of_getElem? hz
      simp
      refine bLc_fm (s0 := s2) ts id (fun t => (tvD z t).getD .non) (fun t => (tvD z t).isSome) (by simp) (by omega) rfl (fun t ht Q hQ => ?_) _ (fun t ht hp Q hQ => ?_) ?_
      · obtain ⟨m, kvs, e, rfl, h4, _⟩ := few_tb (h t ht).1 (h t ht).2
        have g1 : vIn (.str z) (.dct kvs) = some (.sh (.bl (tvD z (.dct kvs)).isSome)) := by simp [vIn, isInD, keyD, tvD]
        simp [g1]
        exact hQ
      · obtain ⟨m, kvs, e, rfl, h4, _⟩ := few_tb (h t ht).1 (h t ht).2
        obtain ⟨x, hx⟩ := Option.isSome_iff_exists.mp hp
        have hx' : valD kvs (.inr z) = some x := hx
        have hxf := few_val (h _ ht).1 hx'
        rw [hx] at hQ
        simp [hx', dat_ins (few_dat hxf)]
        exact hQ
      · rw [fm_eq]
        have hfw := tv_few (z := z) (fun d hd => (h d hd).1)
        have hfl2 : (ts.filterMap (tvD z)).length ≤ ts.length := List.length_filterMap_le _ _
        have hsome : ts.filterMap (tvD z) ≠ [] := by
          rw [allKeys, mem_sort, mem_once, List.mem_flatMap] at hzm
          obtain ⟨t, ht, hzk⟩ := hzm
          obtain ⟨m, kvs, e, rfl, h4, h5, nd⟩ := few_tb (h t ht).1 (h t ht).2
          obtain ⟨y, hy⟩ := mem_keys (fun p hp => (abc_word (h5 p hp).1).2.1) hzk
          exact List.ne_nil_of_mem (List.mem_filterMap.mpr ⟨_, ht, valD_of hy nd⟩)
        simp [K_shape_of_tables_1]
        refine clI ⟨n, ts.filterMap (tvD z), rfl, hfw, pow_le4 hl (by omega), hk, ?_⟩
        obtain ⟨q1, q2⟩ := ls_sh hfw
        have e1 : ((allKeys ts).map (entD (lsD n) ts)).take (j + 1) = ((allKeys ts).map (entD (lsD n) ts)).take j ++ [entD (lsD n) ts z] := by
          rw [List.take_add_one, List.getElem?_map, hz]; rfl
        have e3 : D.tup [.str z, lsD n (ts.filterMap (tvD z)), .bl (((ts.filterMap (tvD z)).length : Int) == (ts.length : Int))] = entD (lsD n) ts z := by
          have : (((ts.filterMap (tvD z)).length : Int) == (ts.length : Int)) = decide ((ts.filterMap (tvD z)).length = ts.length) := by
            rw [Bool.eq_iff_iff, beq_iff_eq, decide_eq_true_eq]; omega
          simp only [entD, this, fm_all]
        have e2 : fApp (.lst (((allKeys ts).map (entD (lsD n) ts)).take j)) [entD (lsD n) ts z] = some (.non, .lst (((allKeys ts).map (entD (lsD n) ts)).take (j + 1))) := by
          simp only [fApp]
          rw [if_pos (by rw [fits_def]; simp; omega), e1]
        simp [sf_ins q2, e3, e2]
    · rintro env ⟨s2, s4, s5, rfl⟩
      simp [K_shape_of_tables_2, vTupleOf]
      exact hq
end VL
set_option linter.all false
set_option maxRecDepth 100000
set_option maxHeartbeats 1000000
namespace VL
open PySem PySem.Spec PyProof.Rows L2
theorem fN_sh {n : Nat} {w : Str} {ts : List D} (hne : ts ≠ []) (hw : w ∈ kindsL) (h : ∀ d ∈ ts, few n d = true ∧ kindD d = w) : isSh (2 * n + 3) (kD (fN n) w ts) = true ∧ Sf (2 * n + 3) (kD (fN n) w ts) := by
  cases n with
  | zero => exact kD_sh (r := 0) hne hw h fun m e => by cases e
  | succ n => exact kD_sh (r := 2 * n + 2) hne hw h fun m e l hl => by cases e; exact ls_sh hl
theorem pure_shape_of_kind {k : Nat} : Pure (S_shape_of_kind k) 2 3 (T_shape_of_kind (S_shape_of_rows k) (S_shape_of_tables k)) := by
  rintro args QV EV aa1 aa2 ⟨n, w, ts, rfl, hw, h, hne, hl, hk, hq⟩
  have hl1 := pow_le hl
  have hs := (fN_sh hne hw h).2
  have hw' := hw
  simp only [kindsL, List.mem_cons, List.not_mem_nil, or_false] at hw'
  simp [T_shape_of_kind, padE]
  rcases hw' with rfl | rfl | rfl | rfl | rfl | rfl
  · simp [K_shape_of_kind_3, K_shape_of_kind_2, K_shape_of_kind_1]
    simpa [kD] using hq
  · simp [K_shape_of_kind_3, K_shape_of_kind_2, K_shape_of_kind_1]
    simpa [kD] using hq
  · have e := ints_map (ts := ts) fun d hd => by obtain ⟨i, rfl, _⟩ := few_num (h d hd).1 (h d hd).2; exact ⟨i, rfl⟩
    have hne2 : intsD ts ≠ [] := fun e2 => hne (by rw [e, e2]; rfl)
    have m1 : vMin [.lst ts] = some (.sh (.int (mn (intsD ts)))) := by
      have := vmin_ok hne2
      rw [← e] at this; exact this
    have m2 : vMax [.lst ts] = some (.sh (.int (mx (intsD ts)))) := by
      have := vmax_ok hne2
      rw [← e] at this; exact this
    simp [m1, m2]
    simpa [kD] using hq
  · simp [K_shape_of_kind_3]
    refine bLc_map (s0 := .un) ts id (fun d => .int (lenD d)) (by simp) (by omega) rfl (fun d hd Q hQ => ?_) ?_
    · obtain ⟨z, rfl, _⟩ := few_wd (h d hd).1 (h d hd).2
      simp
      exact hQ
    · have e1 : (ts.map fun d => D.int (lenD d)) = (ts.map lenD).map .int := by rw [List.map_map]; rfl
      have hne2 : ts.map lenD ≠ [] := by simpa using hne
      have m2 : vMax [D.lst (List.map (D.int ∘ lenD) ts)] = some (.sh (.int (mx (ts.map lenD)))) := by rw [← List.map_map]; exact vmax_ok hne2
      rw [e1]
      simp [m2]
      simpa [kD] using hq
  · obtain ⟨d, hd⟩ := List.exists_mem_of_ne_nil _ hne
    obtain ⟨m, _, rfl, _⟩ := few_rw (h d hd).1 (h d hd).2
    simp [K_shape_of_kind_3, K_shape_of_kind_2]
    refine clI ⟨m, ts, rfl, h, hne, hl, by omega, ?_⟩
    simp [sf_ins hs]
    have hss : isIns (kD (lsD m) "row" ts) = false := sf_ins hs
    simp [hss]
    exact hq
  · obtain ⟨d, hd⟩ := List.exists_mem_of_ne_nil _ hne
    obtain ⟨m, _, rfl, _⟩ := few_tb (h d hd).1 (h d hd).2
    simp [K_shape_of_kind_3, K_shape_of_kind_2, K_shape_of_kind_1]
    refine clI ⟨m, ts, rfl, h, hne, hl, by omega, ?_⟩
    have hss : isIns (kD (lsD m) "table" ts) = false := sf_ins hs
    simp [hss]
    exact hq
theorem pure_shape_of {k : Nat} : Pure (S_shape_of (k + 1)) 1 5 (T_shape_of S_kind_of (S_shape_of_kind k)) := by
  rintro args QV EV aa1 aa2 ⟨n, ds, rfl, h, hl, hk, hq⟩
  have hl1 := pow_le hl
  have ek : kl_KINDS = kindsL := rfl
  simp [T_shape_of, padE, K_shape_of_3]
  rw [ek]
  refine ⟨fun j env => ∃ s2 s3 s4, env = [.sh (.lst ds), .ow (.lst ((kindsL.take j).filterMap (partK (fN n) ds))), s2, s3, s4], ⟨.un, .un, .un, rfl⟩, ?_, ?_⟩
  · rintro j d env hj ⟨s2, s3, s4, rfl⟩
    rw [List.getElem?_map, Option.map_eq_some_iff] at hj
    obtain ⟨w, hw, rfl⟩ := hj
    have hwm := List.mem_of_getElem? hw
    have e1 : (kindsL.take (j + 1)).filterMap (partK (fN n) ds) = (kindsL.take j).filterMap (partK (fN n) ds) ++ (partK (fN n) ds w).toList := by
      rw [List.take_add_one, hw, List.filterMap_append]
      cases h : partK (fN n) ds w <;> simp [h]
    have e4 : ((kindsL.take j).filterMap (partK (fN n) ds)).length ≤ 6 := by
      have := List.length_filterMap_le (partK (fN n) ds) (kindsL.take j)
      have : (kindsL.take j).length ≤ 6 := by simp [kindsL]; omega
      omega
    simp
    refine bLc_fm (s0 := s4) ds id id (fun t => decide (kindD t = w)) (by simp) (by omega) rfl (fun t ht Q hQ => ?_) _ (fun t ht hp Q hQ => ?_) ?_
    · have td := few_dat (h t ht)
      simp [dat_ins td]
      refine clI ⟨t, rfl, dat_basic td, ?_⟩
      have eb : decide (kindD t = w) = (kindD t == w) := by rw [Bool.eq_iff_iff, beq_iff_eq, decide_eq_true_eq]
      simp only [eb] at hQ
      simp
      exact hQ
    · have td := few_dat (h t ht)
      simp
      simpa using hQ
    · have eof : ((ds.filter fun t => decide (kindD t = w)).map id) = ofK ds w := by simp [ofK]
      rw [eof]
      simp [K_shape_of_1]
      by_cases hne : ofK ds w = []
      · have : partK (fN n) ds w = none := by simp [partK, hne]
        rw [this] at e1
        simp at e1
        simp [hne, e1]
      · have hp : partK (fN n) ds w = some (kD (fN n) w (ofK ds w)) := by simp [partK, hne]
        rw [hp] at e1
        have hlw : (ofK ds w).length ≤ ds.length := List.length_filter_le _ _
        simp [hne]
        refine clI ⟨n, w, ofK ds w, rfl, hwm, few_of h, hne, pow_le1 hl hlw, hk, ?_⟩
        have hs := (fN_sh hne hwm (few_of h)).2
        have e2 : fApp (.lst ((kindsL.take j).filterMap (partK (fN n) ds))) [kD (fN n) w (ofK ds w)] = some (.non, .lst ((kindsL.take (j + 1)).filterMap (partK (fN n) ds))) := by
          simp only [fApp]
          rw [if_pos (by rw [fits_def]; omega), e1]; rfl
        simp [sf_ins hs, e2]
  · rintro env ⟨s2, s3, s4, rfl⟩
    have e0 : (kindsL.take (kindsL.map D.str).length).filterMap (partK (fN n) ds) = partsD (fN n) ds := by
      rw [List.length_map, List.take_length]; rfl
    have hparts : ∀ p ∈ partsD (fN n) ds, isIns p = false := fun p hp => by
      obtain ⟨w, hw, hne, rfl⟩ := parts_mem hp
      exact sf_ins (fN_sh hne hw (few_of h)).2
    rw [e0]
    rw [ls_def] at hq
    generalize partsD (fN n) ds = L at hq hparts
    simp [K_shape_of_2]
    by_cases h1 : L.length = 1
    · obtain ⟨p, rfl⟩ := List.length_eq_one_iff.mp h1
      simp [at0s, hparts p (by simp)]
      exact hq
    · rw [if_neg (by omega)]
      have e : orD L = .tup [.str "or", .tup L] := by
        unfold orD
        split
        · exact absurd rfl h1
        · rfl
      rw [e] at hq
      simp [vTupleOf]
      exact hq
def S_least_shape : VSp := fun args Q E => ∃ (ds : List D), args = [.sh (.lst ds)] ∧ ds.length ≤ 1000000 ∧ (∀ d ∈ ds, dat 20 d = true) ∧ ((∃ d ∈ ds, isTh 12 d = false) → E "BadThing" [] []) ∧ ((∀ d ∈ ds, isTh 12 d = true) → ∃ n, (∀ d ∈ ds, few n d = true) ∧ ds.length * 4 ^ n ≤ 1200 ∧ n < 5 ∧ Q (.sh (lsD n ds)) [])
theorem pure_least_shape : Pure S_least_shape 1 2 (T_least_shape S_look_thing (S_shape_of 5)) := by
  rintro args QV EV aa1 aa2 ⟨ds, rfl, hl, hd, h1, h2⟩
  simp [T_least_shape, padE]
  refine ⟨fun j env => ∃ s1, env = [.sh (.lst ds), s1] ∧ ∀ d ∈ ds.take j, isTh 12 d = true, ⟨.un, rfl, by simp⟩, ?_, ?_⟩
  · rintro j d env hj ⟨s1, rfl, hall⟩
    have hm := List.mem_of_getElem? hj
    simp [dat_ins (hd d hm)]
    refine clI ⟨20, d, rfl, hd d hm, fun e => ?_, fun e => ?_⟩
    · simp
      intro x hx
      rw [List.take_add_one, hj, List.mem_append] at hx
      rcases hx with hx | hx
      · exact hall x hx
      · simp at hx; subst hx; exact e
    · simpa using h1 ⟨d, hm, e⟩
  · rintro env ⟨s1, rfl, hall⟩
    rw [List.take_length] at hall
    obtain ⟨n, hf, hn, hn5, hq⟩ := h2 hall
    simp [K_least_shape_1]
    refine clI ⟨n, ds, rfl, hf, hn, hn5, ?_⟩
    obtain ⟨q1, q2⟩ := ls_sh hf
    simp [sf_ins q2]
    exact hq
end VL
set_option linter.all false
set_option maxRecDepth 100000
set_option maxHeartbeats 1000000
namespace VL
open PySem PySem.Spec PyProof.Rows L2
def S__law_least (k : Nat) : VSp := fun args Q _ => ∃ (n : Nat) (ds : List D), args = [.sh (.lst ds)] ∧ (∀ d ∈ ds, few n d = true) ∧ ds.length * 4 ^ n ≤ 1200 ∧ n < k ∧ Q (.sh (lsD n ds)) []
def S__law_entries (k : Nat) : VSp := fun args Q _ => ∃ (n : Nat) (ts : List D), args = [.sh (.lst ts)] ∧ (∀ d ∈ ts, few (n + 1) d = true ∧ kindD d = "table") ∧ ts ≠ [] ∧ ts.length * 4 ^ (n + 1) ≤ 1200 ∧ n < k ∧ Q (.sh (.tup ((allKeys ts).map (entD (lsD n) ts)))) []
theorem kind_num {n : Nat} {d : D} (h : dat n d = true) {j : Nat} {w : Str} (hw : kindsL[j]? = some w) : (lkd d == (j : Int)) = decide (kindD d = w) := by
  have hj : j < 6 := by
    have := (List.getElem?_eq_some_iff.mp hw).1
    simpa [kindsL] using this
  have h6 : j = 0 ∨ j = 1 ∨ j = 2 ∨ j = 3 ∨ j = 4 ∨ j = 5 := by omega
  rcases dat_cases h with rfl | ⟨b, rfl⟩ | ⟨i, rfl⟩ | ⟨z, rfl, hz⟩ | ⟨m, ds, rfl, rfl, hl, hx⟩ | ⟨m, kvs, rfl, rfl, hl, hx, nd⟩ <;> rcases h6 with rfl | rfl | rfl | rfl | rfl | rfl <;> simp [kindsL] at hw <;> subst hw <;> simp [lkd]
theorem pure__law_least {k : Nat} : Pure (S__law_least (k + 1)) 1 9 (T__law_least S__law_kind (S__law_least k) (S__law_entries k)) := by
  rintro args QV EV aa1 aa2 ⟨n, ds, rfl, h, hl, hk, hq⟩
  have hl1 := pow_le hl
  simp [T__law_least, padE, K__law_least_7]
  refine ⟨fun j env => ∃ s2 s3 s4 s5 s6 s7 s8, env = [.sh (.lst ds), .ow (.lst ((kindsL.take j).filterMap (partK (fN n) ds))), s2, s3, s4, s5, s6, s7, s8], ⟨.un, .un, .un, .un, .un, .un, .un, rfl⟩, ?_, ?_⟩
  · rintro j d env hj ⟨s2, s3, s4, s5, s6, s7, s8, rfl⟩
    rw [List.getElem?_map, Option.map_eq_some_iff] at hj
    obtain ⟨j', hj', rfl⟩ := hj
    obtain ⟨hj6, rfl⟩ : j < 6 ∧ j = j' := by
      have h6 := (List.getElem?_eq_some_iff.mp hj').1
      simp at h6
      rw [List.getElem?_range h6] at hj'
      exact ⟨h6, by simpa using hj'⟩
    obtain ⟨w, hw⟩ : ∃ w, kindsL[j]? = some w := ⟨kindsL[j]'(by simpa [kindsL] using hj6), List.getElem?_eq_getElem _⟩
    have hwm := List.mem_of_getElem? hw
    have e1 : (kindsL.take (j + 1)).filterMap (partK (fN n) ds) = (kindsL.take j).filterMap (partK (fN n) ds) ++ (partK (fN n) ds w).toList := by
      rw [List.take_add_one, hw, List.filterMap_append]
      cases h : partK (fN n) ds w <;> simp [h]
    have e4 : ((kindsL.take j).filterMap (partK (fN n) ds)).length ≤ 6 := by
      have := List.length_filterMap_le (partK (fN n) ds) (kindsL.take j)
      have : (kindsL.take j).length ≤ 6 := by simp [kindsL]; omega
      omega
    simp
    refine bLc_fm (s0 := s4) ds id id (fun t => decide (kindD t = w)) (by simp) (by omega) rfl (fun t ht Q hQ => ?_) _ (fun t ht hp Q hQ => ?_) ?_
    · have td := few_dat (h t ht)
      simp [dat_ins td]
      refine clI ⟨t, rfl, dat_basic td, ?_⟩
      have eb := kind_num td hw
      simp only [← eb] at hQ
      simp
      exact hQ
    · have td := few_dat (h t ht)
      simp
      simpa using hQ
    · have eof : ((ds.filter fun t => decide (kindD t = w)).map id) = ofK ds w := by simp [ofK]
      rw [eof]
      simp [K__law_least_5, eq_nil]
      by_cases hne : ofK ds w = []
      · have : partK (fN n) ds w = none := by simp [partK, hne]
        rw [this] at e1
        simp at e1
        simp [hne, e1]
      · have hp : partK (fN n) ds w = some (kD (fN n) w (ofK ds w)) := by simp [partK, hne]
        rw [hp] at e1
        have hlw : (ofK ds w).length ≤ ds.length := List.length_filter_le _ _
        have hlw2 := pow_le1 hl hlw
        have hs := (fN_sh hne hwm (few_of h)).2
        have e2 : ∀ x, x = kD (fN n) w (ofK ds w) → fApp (.lst ((kindsL.take j).filterMap (partK (fN n) ds))) [x] = some (.non, .lst ((kindsL.take (j + 1)).filterMap (partK (fN n) ds))) := fun x hx => by
          subst hx
          simp only [fApp]
          rw [if_pos (by rw [fits_def]; omega), e1]; rfl
        have hfw := few_of (w := w) h
        generalize ofK ds w = ts at hne hp hlw hlw2 hs e2 hfw
        generalize (kindsL.take j).filterMap (partK (fN n) ds) = A at e1 e2 e4
        generalize (kindsL.take (j + 1)).filterMap (partK (fN n) ds) = B at e1 e2
        have hl2 := pow_le hlw2
        simp [hne, K__law_least_4]
        have h6 : j = 0 ∨ j = 1 ∨ j = 2 ∨ j = 3 ∨ j = 4 ∨ j = 5 := by omega
        rcases h6 with rfl | rfl | rfl | rfl | rfl | rfl <;> simp [kindsL] at hw <;> subst hw
        · simp [at0s, e2 (.tup [.str "none"]) (by simp [kD])]
        · simp [at1s, e2 (.tup [.str "truth"]) (by simp [kD])]
        · have e := ints_map (ts := ts) fun d hd => by obtain ⟨i, rfl, _⟩ := few_num (hfw d hd).1 (hfw d hd).2; exact ⟨i, rfl⟩
          have hne2 : intsD ts ≠ [] := fun e2 => hne (by rw [e, e2]; rfl)
          have m1 : vMin [.lst ts] = some (.sh (.int (mn (intsD ts)))) := by
            have := vmin_ok hne2
            rw [← e] at this; exact this
          have m2 : vMax [.lst ts] = some (.sh (.int (mx (intsD ts)))) := by
            have := vmax_ok hne2
            rw [← e] at this; exact this
          simp [m1, m2, e2 (.tup [.str "number", .int (mn (intsD ts)), .int (mx (intsD ts))]) (by simp [kD])]
        · simp
          refine bLc_map (s0 := s8) ts id (fun d => .int (lenD d)) (by simp) (by omega) rfl (fun d hd Q hQ => ?_) ?_
          · obtain ⟨z, rfl, _⟩ := few_wd (hfw d hd).1 (hfw d hd).2
            simp
            exact hQ
          · have e3 : (ts.map fun d => D.int (lenD d)) = (ts.map lenD).map .int := by rw [List.map_map]; rfl
            have hne2 : ts.map lenD ≠ [] := by simpa using hne
            have m2 : vMax [D.lst (List.map (D.int ∘ lenD) ts)] = some (.sh (.int (mx (ts.map lenD)))) := by rw [← List.map_map]; exact vmax_ok hne2
            rw [e3]
            simp [m2, e2 (.tup [.str "word", .int (mx (ts.map lenD))]) (by simp [kD])]
        · obtain ⟨d0, hd0⟩ := List.exists_mem_of_ne_nil _ hne
          obtain ⟨m, _, rfl, _⟩ := few_rw (hfw d0 hd0).1 (hfw d0 hd0).2
          have hf : ∀ d ∈ ts, (itemsD d).length ≤ 4 := fun d hd => by
            obtain ⟨m, ds, e, rfl, h4, _⟩ := few_rw (hfw d hd).1 (hfw d hd).2
            exact h4
          have hfl := flat_len hf
          simp [K__law_least_3]
          refine ⟨fun i env => ∃ s6, env = [.sh (.lst ds), .ow (.lst A), .sh (.int 4), .sh (.lst ts), keepS s4, .sh (.lst ((ts.take i).flatMap itemsD)), s6, s7, s8], ⟨s6, by simp⟩, ?_, ?_⟩
          · rintro i d env hi ⟨s6, rfl⟩
            have hdm := List.mem_of_getElem? hi
            obtain ⟨m', dd, e, rfl, h4, _⟩ := few_rw (hfw d hdm).1 (hfw d hdm).2
            have e5 : (ts.take (i + 1)).flatMap itemsD = (ts.take i).flatMap itemsD ++ dd := by
              rw [List.take_add_one, hi]; simp [itemsD]
            have e6 : ((ts.take i).flatMap itemsD).length ≤ 4 * (ts.take i).length := flat_len fun d hd => hf d (List.mem_of_mem_take hd)
            have e7 : (ts.take i).length ≤ ts.length := by simp; omega
            simp
            rw [add_lst (by omega), ← e5]
            simp
          · rintro env ⟨s6, rfl⟩
            rw [List.take_length]
            simp [K__law_least_2]
            refine bLc_map (s0 := s6) ts id (fun d => .int (lenD d)) (by simp) (by omega) rfl (fun d hd Q hQ => ?_) ?_
            · obtain ⟨m', dd, e, rfl, h4, _⟩ := few_rw (hfw d hd).1 (hfw d hd).2
              simp
              exact hQ
            · have e3 : (ts.map fun d => D.int (lenD d)) = (ts.map lenD).map .int := by rw [List.map_map]; rfl
              have hne2 : ts.map lenD ≠ [] := by simpa using hne
              have m1 : vMin [D.lst (List.map (D.int ∘ lenD) ts)] = some (.sh (.int (mn (ts.map lenD)))) := by rw [← List.map_map]; exact vmin_ok hne2
              have m2 : vMax [D.lst (List.map (D.int ∘ lenD) ts)] = some (.sh (.int (mx (ts.map lenD)))) := by rw [← List.map_map]; exact vmax_ok hne2
              rw [e3]
              have hit := items_few fun d hd => (hfw d hd).1
              obtain ⟨q1, q2⟩ := ls_sh hit
              simp [K__law_least_1]
              refine clI ⟨m, ts.flatMap itemsD, rfl, hit, pow_le4 hlw2 hfl, by omega, ?_⟩
              simp [sf_ins q2, m1, m2, e2 (.tup [.str "row", lsD m (ts.flatMap itemsD), .int (mn (ts.map lenD)), .int (mx (ts.map lenD))]) (by simp [kD, fN])]
        · obtain ⟨d0, hd0⟩ := List.exists_mem_of_ne_nil _ hne
          obtain ⟨m, _, rfl, _⟩ := few_tb (hfw d0 hd0).1 (hfw d0 hd0).2
          simp
          refine clI ⟨m, ts, rfl, hfw, hne, hlw2, by omega, ?_⟩
          simp [e2 (.tup [.str "table", .tup ((allKeys ts).map (entD (lsD m) ts)), .non]) (by simp [kD, fN])]
  · rintro env ⟨s2, s3, s4, s5, s6, s7, s8, rfl⟩
    have e0 : (kindsL.take 6).filterMap (partK (fN n) ds) = partsD (fN n) ds := rfl
    have hparts : ∀ p ∈ partsD (fN n) ds, isIns p = false := fun p hp => by
      obtain ⟨w, hw, hne, rfl⟩ := parts_mem hp
      exact sf_ins (fN_sh hne hw (few_of h)).2
    simp only [List.length_map, List.length_range]
    rw [e0]
    rw [ls_def] at hq
    generalize partsD (fN n) ds = L at hq hparts
    simp [K__law_least_6]
    by_cases h1 : L.length = 1
    · obtain ⟨p, rfl⟩ := List.length_eq_one_iff.mp h1
      simp [at0s, hparts p (by simp)]
      exact hq
    · rw [if_neg (by omega)]
      have e : orD L = .tup [.str "or", .tup L] := by
        unfold orD
        split
        · exact absurd rfl h1
        · rfl
      rw [e] at hq
      simp [vTupleOf]
      exact hq
/-- the dict of the values told so far -/
def Fv (l : List D) : Option D := if l = [] then none else some (.lst l)
structure Ks (n : Nat) (kvs : List (Key × D)) (g : Str → List D) : Prop where
  nd : (kvs.map (·.1)).Nodup
  key : ∀ p ∈ kvs, p.1 ∈ abc
  val : ∀ z, valD kvs (.inr z) = Fv (g z)
theorem put_nd {kvs : List (Key × D)} {k : Key} {d : D} (nd : (kvs.map (·.1)).Nodup) : ((putD kvs k d).map (·.1)).Nodup := by
  unfold putD
  split
  · have : (kvs.map fun kv => if kv.1 = k then (kv.1, d) else kv).map (·.1) = kvs.map (·.1) := by
      rw [List.map_map]; refine List.map_congr_left fun p _ => ?_
      simp only [Function.comp]; split <;> rfl
    rw [this]; exact nd
  · rename_i hno
    rw [List.map_append]
    refine List.nodup_append.mpr ⟨nd, by simp, ?_⟩
    intro a ha b hb e
    subst e
    simp at hb
    subst hb
    obtain ⟨p, hp, e⟩ := List.mem_map.mp ha
    exact hno (List.any_eq_true.mpr ⟨p, hp, by simpa using e⟩)
theorem Ks.len {n : Nat} {kvs : List (Key × D)} {g : Str → List D} (k : Ks n kvs g) : kvs.length ≤ 3 := by
  have := abc_len (l := kvs.map (·.1)) (fun x hx => by obtain ⟨p, hp, rfl⟩ := List.mem_map.mp hx; exact k.key p hp) k.nd
  simpa using this
theorem Ks.put {n : Nat} {kvs : List (Key × D)} {g g' : Str → List D} (k : Ks n kvs g) {z : Str} {l : List D} (hz : (Sum.inr z : Key) ∈ abc) (hl : l ≠ []) (h1 : g' z = l) (h2 : ∀ y, y ≠ z → g' y = g y) : Ks n (putD kvs (.inr z) (.lst l)) g' := by
  refine ⟨put_nd k.nd, fun p hp => ?_, fun y => ?_⟩
  · rcases mem_put hp with h | ⟨h, _⟩
    · exact k.key p h
    · rw [h]; exact hz
  · rw [valD_put]
    by_cases hy : y = z
    · subst hy
      rw [if_pos rfl, h1]; simp [Fv, hl]
    · rw [if_neg (fun e => hy (Sum.inr.inj e)), k.val, h2 y hy]
theorem Ks.keys {n : Nat} {kvs : List (Key × D)} {ts : List D} (k : Ks n kvs fun z => ts.filterMap (tvD z)) (h : ∀ d ∈ ts, few (n + 1) d = true ∧ kindD d = "table") : sortS (keysOf kvs) = allKeys ts := by
  have hk : ∀ p ∈ kvs, strKey p.1 = true := fun p hp => (abc_word (k.key p hp)).2.1
  have ndk : (keysOf kvs).Nodup := by
    have e : (keysOf kvs).map (Sum.inr : Str → Key) = kvs.map (·.1) := by
      simp only [keysOf, List.map_map]
      exact List.map_congr_left fun p hp => (strKey_inr (hk p hp)).symm
    exact nodup_inr (e ▸ k.nd)
  refine sort_perm_eq ((List.perm_ext_iff_of_nodup ndk once_nd).mpr fun z => ?_)
  rw [mem_once, List.mem_flatMap]
  constructor
  · intro hz
    obtain ⟨d, hd⟩ := mem_keys hk hz
    have hv := valD_of hd k.nd
    rw [k.val] at hv
    unfold Fv at hv
    split at hv
    · cases hv
    · rename_i hne
      obtain ⟨x, hx⟩ := List.exists_mem_of_ne_nil _ hne
      obtain ⟨t, ht, e⟩ := List.mem_filterMap.mp hx
      obtain ⟨m, tk, _, rfl, _⟩ := few_tb (h t ht).1 (h t ht).2
      exact ⟨_, ht, List.mem_map.mpr ⟨_, valD_mem e, rfl⟩⟩
  · rintro ⟨t, ht, hz⟩
    obtain ⟨m, tk, _, rfl, _, h5, nd⟩ := few_tb (h t ht).1 (h t ht).2
    obtain ⟨y, hy⟩ := mem_keys (fun p hp => (abc_word (h5 p hp).1).2.1) hz
    have hne : ts.filterMap (tvD z) ≠ [] := List.ne_nil_of_mem (List.mem_filterMap.mpr ⟨_, ht, valD_of hy nd⟩)
    have hv := k.val z
    simp only [Fv, hne, if_false] at hv
    exact List.mem_map.mpr ⟨_, valD_mem hv, rfl⟩
theorem pure__law_entries {k : Nat} : Pure (S__law_entries k) 1 4 (T__law_entries (S__law_least k)) := by
  rintro args QV EV aa1 aa2 ⟨n, ts, rfl, h, hne, hl, hk, hq⟩
  have hl1 := pow_le hl
  have hsl : ∀ z (l : List D), (l.filterMap (tvD z)).length ≤ l.length := fun z l => List.length_filterMap_le _ _
  simp [T__law_entries, padE, K__law_entries_2]
  refine ⟨fun j env => ∃ kvs s2 s3, env = [.sh (.lst ts), .ow (.dct kvs), s2, s3] ∧ Ks n kvs fun z => (ts.take j).filterMap (tvD z), ⟨[], .un, .un, rfl, ⟨by simp, (fun p hp => by cases hp), fun z => by simp [Fv, valD_nil]⟩⟩, ?_, ?_⟩
  · rintro j d env hj ⟨kvs, s2, s3, rfl, hks⟩
    have hdm := List.mem_of_getElem? hj
    have hjl := (List.getElem?_eq_some_iff.mp hj).1
    obtain ⟨m, tk, e, rfl, h4, h5, ndt⟩ := few_tb (h d hdm).1 (h d hdm).2
    have hdd := few_dat (h _ hdm).1
    obtain ⟨_, hx, _⟩ := dat_dct.mp hdd
    have htk : ∀ z, (ts.take (j + 1)).filterMap (tvD z) = (ts.take j).filterMap (tvD z) ++ (valD tk (.inr z)).toList := fun z => by
      rw [List.take_add_one, hj, List.filterMap_append]
      cases hv : valD tk (.inr z) <;> simp [tvD, hv]
    have hjt : ∀ z, ((ts.take j).filterMap (tvD z)).length ≤ 1200 := fun z => by
      have := hsl z (ts.take j)
      have : (ts.take j).length ≤ ts.length := by simp; omega
      omega
    refine ⟨tk, rfl, keys_fit hx, fun i env => ∃ kvs s3, env = [.sh (.lst ts), .ow (.dct kvs), .sh (.dct tk), s3] ∧ Ks n kvs fun z => (ts.take j).filterMap (tvD z) ++ (valD (tk.take i) (.inr z)).toList, ⟨kvs, s3, by simp, by simpa [valD_nil] using hks⟩, ?_, ?_⟩
    · rintro i key x env hi ⟨kvs, s3, rfl, hks⟩
      have hm : (key, x) ∈ tk := List.mem_of_getElem? hi
      have hkk := abc_word (h5 _ hm).1
      cases key with
      | inl y => exact absurd hkk.2.1 (by simp [strKey])
      | inr z =>
        have hv : valD tk (.inr z) = some x := valD_of hm ndt
        have hxf : dat m x = true := few_dat (h5 _ hm).2
        have hkd : keyV (.inr z) = .str z := rfl
        have hnew : valD (tk.take i) (.inr z) = none := valD_take_new ndt hi
        have hval : (valD kvs (.inr z)).getD (.lst []) = .lst ((ts.take j).filterMap (tvD z)) := by
          rw [hks.val, hnew]
          simp only [Option.toList_none, List.append_nil, Fv]
          split
          · rename_i e; rw [e]; rfl
          · rfl
        have hl3 := hks.len
        have hpl := @put_len kvs (.inr z) (.lst ((ts.take j).filterMap (tvD z) ++ [x]))
        have e3 : setD (.dct kvs) (.str z) (.lst ((ts.take j).filterMap (tvD z) ++ [x])) = some (.dct (putD kvs (.inr z) (.lst ((ts.take j).filterMap (tvD z) ++ [x])))) := by
          simp only [setD, show keyD (.str z) = some (.inr z) from rfl, Option.bind_some]
          rw [if_pos (by rw [fits_def]; omega)]
        have hadd : vAdd (.lst ((ts.take j).filterMap (tvD z))) (.lst [x]) = some (.ow (.lst ((ts.take j).filterMap (tvD z) ++ [x]))) := add_lst (by have := hjt z; simp; omega)
        have nxt : Ks n (putD kvs (.inr z) (.lst ((ts.take j).filterMap (tvD z) ++ [x]))) fun y => (ts.take j).filterMap (tvD y) ++ (valD (tk.take (i + 1)) (.inr y)).toList :=
          hks.put (h5 _ hm).1 (by simp) (by rw [valD_take ndt hi, if_pos rfl]; rfl) fun y hy => by rw [valD_take ndt hi, if_neg (fun e => hy (Sum.inr.inj e))]
        simp [hkd, hval, hv, dat_ins hxf, hadd, e3]
        exact nxt
    · rintro env ⟨kvs, s3, rfl, hks⟩
      rw [List.take_length] at hks
      refine ⟨kvs, _, _, rfl, ?_⟩
      have : (fun z => (ts.take (j + 1)).filterMap (tvD z)) = fun z => (ts.take j).filterMap (tvD z) ++ (valD tk (.inr z)).toList := funext htk
      rw [this]; exact hks
  · rintro env ⟨kvs, s2, s3, rfl, hks⟩
    rw [List.take_length] at hks
    have hsk := hks.keys h
    have hkk : ∀ p ∈ kvs, strKey p.1 = true := fun p hp => (abc_word (hks.key p hp)).2.1
    have hval : ∀ z ∈ allKeys ts, valD kvs (.inr z) = some (.lst (ts.filterMap (tvD z))) := fun z hz => by
      rw [← hsk, mem_sort] at hz
      obtain ⟨d, hd⟩ := mem_keys hkk hz
      have hv := valD_of hd hks.nd
      rw [hks.val] at hv ⊢
      unfold Fv at hv ⊢
      split at hv
      · cases hv
      · rename_i hne; rw [if_neg hne]
    have hx : ∀ p ∈ kvs, strKey p.1 = true ∧ dat (n + 1) p.2 = true := fun ⟨key, d⟩ hp => by
      have hs := hkk _ hp
      refine ⟨hs, ?_⟩
      have ek := strKey_inr hs
      simp only at ek
      have hv := valD_of hp hks.nd
      rw [ek, hks.val] at hv
      unfold Fv at hv
      split at hv
      · cases hv
      · simp only [Option.some.injEq] at hv
        subst hv
        have := hsl (keyS key) ts
        exact dat_lst.mpr ⟨by omega, fun x hx => few_dat (tv_few (fun d hd => (h d hd).1) x hx)⟩
    have hl3 := hks.len
    simp [K__law_entries_1]
    refine ⟨keys_fit hx, ?_⟩
    rw [srt_keys hx, hsk]
    simp only [bq_some]
    have hakl : (allKeys ts).length ≤ 3 := by rw [← hsk, sort_len, keys_len]; exact hl3
    refine bLc_map (s0 := s3) (allKeys ts) (fun z => .str z) (fun z => entD (lsD n) ts z) rfl (by omega) rfl (fun z hz Q hQ => ?_) ?_
    · have hfw := tv_few (z := z) (fun d hd => (h d hd).1)
      obtain ⟨q1, q2⟩ := ls_sh hfw
      simp [hval z hz]
      refine clI ⟨n, ts.filterMap (tvD z), rfl, hfw, pow_le4 hl (by have := hsl z ts; omega), hk, ?_⟩
      have e3 : D.tup [.str z, lsD n (ts.filterMap (tvD z)), .bl (((ts.filterMap (tvD z)).length : Int) == (ts.length : Int))] = entD (lsD n) ts z := by
        have : (((ts.filterMap (tvD z)).length : Int) == (ts.length : Int)) = decide ((ts.filterMap (tvD z)).length = ts.length) := by
          rw [Bool.eq_iff_iff, beq_iff_eq, decide_eq_true_eq]; omega
        simp only [entD, this, fm_all]
      simp [sf_ins q2, hval z hz, e3]
      exact hQ
    · simp [vTupleOf]
      exact hq
end VL
set_option linter.all false
set_option maxRecDepth 100000
set_option maxHeartbeats 1000000
namespace VL
open PySem PySem.Spec PyProof.Rows L2
def S__law_told : VSp := fun args Q _ => ∃ (ds : List D), args = [.sh (.lst ds)] ∧ ds.length ≤ 1000000 ∧ (∀ d ∈ ds, dat 20 d = true) ∧ ((∃ d ∈ ds, isTh 12 d = false) → Q (.sh (refD "thing")) []) ∧ ((∀ d ∈ ds, isTh 12 d = true) → ∃ n, (∀ d ∈ ds, few n d = true) ∧ ds.length * 4 ^ n ≤ 1200 ∧ n < 5 ∧ Q (.sh (lsD n ds)) [])
theorem pure__law_told : Pure S__law_told 1 4 (T__law_told S_least_shape S__law_refusal) := by
  have m3 : tab m_NestError "BadThing" = some true := by decide +kernel
  rintro args QV EV aa1 aa2 ⟨ds, rfl, hl, hd, h1, h2⟩
  simp [T__law_told, padE, K__law_told_3, K__law_told_2]
  refine clI ⟨ds, rfl, hl, hd, fun e => ?_, fun e => ?_⟩
  · simp [tryEx_yes m3, K__law_told_1]
    refine clI ⟨_, _, _, rfl, refs_thing, ?_⟩
    simp; exact h1 e
  · obtain ⟨n, hf, hn, hn5, hq⟩ := h2 e
    refine ⟨n, hf, hn, hn5, ?_⟩
    obtain ⟨q1, q2⟩ := ls_sh hf
    simp [K__law_told_1, sf_ins q2]
    exact hq
theorem o_revL {i : Nat} {env : En} {ds : List D} {Q : Sv → En → Prop} {E : XQ} (h : env[i]? = some (.sh (.lst ds))) (hq : Q (.ow (.lst ds.reverse)) env) : oRev (bVar i) env Q E := by
  have : ∃ v, env[i]? = some v ∧ v.rd = some (.lst ds) := ⟨_, h, rfl⟩
  simp only [oRev]
  simp [h]
  exact hq
theorem few20 {d : D} (h : few 3 d = true) : dat 20 d = true := dat_le (few_dat h) (by omega)
theorem few12 {d : D} (h : few 3 d = true) : isTh 12 d = true := isTh_le (few_th h) (by omega)
/-- told of few things -/
theorem ask_told {ds : List D} {Q : Sv → List D → Prop} {E : Str → List (Str × D) → List D → Prop} (h : ∀ d ∈ ds, few 3 d = true) (hl : ds.length ≤ 14) (hq : Q (.sh (lsD 3 ds)) []) : S__law_told [.sh (.lst ds)] Q E :=
  ⟨ds, rfl, by omega, fun d hd => few20 (h d hd), (fun ⟨d, hd, e⟩ => by rw [few12 (h d hd)] at e; cases e), fun _ => ⟨3, h, by omega, by omega, hq⟩⟩
theorem ask_least {ds : List D} {Q : Sv → List D → Prop} {E : Str → List (Str × D) → List D → Prop} (h : ∀ d ∈ ds, few 3 d = true) (hl : ds.length ≤ 14) (hq : Q (.sh (lsD 3 ds)) []) : S__law_least 5 [.sh (.lst ds)] Q E :=
  ⟨3, ds, rfl, h, by omega, by omega, hq⟩
theorem ask_fits {ds : List D} {t : D} {Q : Sv → List D → Prop} {E : Str → List (Str × D) → List D → Prop} (h : ∀ d ∈ ds, few 3 d = true) (ht : few 3 t = true) (hq : Q (.sh (.bl (fits' 31 (lsD 3 ds) t))) []) : S_fits_shape [.sh (lsD 3 ds), .sh t] Q E := by
  obtain ⟨q1, q2⟩ := ls_sh h
  have q3 : isSh 31 (lsD 3 ds) = true := isSh_le q1 (by omega)
  exact ⟨3, 10, lsD 3 ds, t, rfl, q2, by omega, few_dat ht, (fun e => by rw [q3] at e; cases e), (fun _ e => by rw [few12 ht] at e; cases e), fun _ _ => hq⟩
theorem ne_blR {a : Bool} : vNe (.bl a) (.bl a) = some (.sh (.bl false)) := ne_self (by simp [pl]) (by simp [dep])
theorem eq_refR {w : Str} : vEq (refD w) (refD w) = some (.sh (.bl true)) := eq_self (by simp [pl, pls]) (by simp [dep, deps])
variable {ns : List Int} {QV : Sv → List D → Prop} {EV : Str → List (Str × D) → List D → Prop}
abbrev ALL (f : VSp → VSp → VSp → VSp → VSp → VSp → VTS) : VTS := f S__law_draw (S__law_few 5) (S__law_least 5) S__law_told S_fits_shape (S__law_fits 40)
theorem go3 {n : Nat} {ds : List D} {x : D} {s6 s7 : Sv} (h : ∀ d ∈ ds, few 3 d = true) (hl : ds.length ≤ 6) (hx : few 3 x = true) (hq : QV (.sh (.bl true)) []) : ALL K_law_3 (bodyEnds [scr ns] QV EV) [scr ns, .ow (twn n), .sh (.lst ds), .sh (lsD 3 ds), .sh (lsD 3 ds), .sh x, s6, s7] := by
  have hs := ls_sh h
  have q31 : isSh 31 (lsD 3 ds) = true := isSh_le hs.1 (by omega)
  have hm : ∀ d ∈ ds ++ [x], few 3 d = true := fun d hd => by
    rcases List.mem_append.mp hd with hd | hd
    · exact h d hd
    · simp at hd; subst hd; exact hx
  have hsm := ls_sh hm
  have hadd : ∀ y, vAdd (.lst ds) (.lst [y]) = some (.ow (.lst (ds ++ [y]))) := fun y => add_lst (by simp; omega)
  have hml : (ds ++ [x]).length ≤ 14 := by simp; omega
  have si := sf_ins hs.2
  have sim := sf_ins hsm.2
  have xi := dat_ins (few_dat hx)
  simp [K_law_3, si, xi]
  refine clI (ask_fits h hx ?_)
  simp [si, xi]
  refine clI ⟨3, 31, 10, lsD 3 ds, x, rfl, q31, hs.2, few_dat hx, by omega, ?_⟩
  simp [ne_blR, hadd]
  refine clI (ask_told hm hml ?_)
  simp [sim, hadd, xi]
  refine clI (ask_least hm hml ?_)
  have e1 := (sh_veq hsm.1 hsm.1 (by omega)).2
  rw [sh_refl hsm.1] at e1
  simp [sim, e1, K_law_2, hadd, xi]
  refine clI (ask_told hm hml ?_)
  have e2 := (sh_veq hsm.1 hs.1 (by omega)).1
  have last : ALL K_law_1 (bodyEnds [scr ns] QV EV) [scr ns, .ow (twn n), .sh (.lst ds), .sh (lsD 3 ds), .sh (lsD 3 ds), .sh x, s6, s7] := by
    simp [K_law_1, mulx61, hadd]
    have t61 : isTh 12 (.lst [.str x61]) = false := by simp [isTh, x61_word]
    refine clI ⟨ds ++ [.lst [.str x61]], rfl, by simp; omega, fun d hd => ?_, fun _ => ?_, fun e => ?_⟩
    · rcases List.mem_append.mp hd with hd | hd
      · exact few20 (h d hd)
      · simp at hd; subst hd
        exact dat_lst.mpr ⟨by simp, fun y hy => by simp at hy; subst hy; simp [dat, x61_len]⟩
    · simp [eq_refR]; exact hq
    · have := e (.lst [.str x61]) (by simp)
      rw [t61] at this; cases this
  simp [sim, si, e2]
  cases hde : deq (lsD 3 (ds ++ [x])) (lsD 3 ds) with
  | false => simp; exact last
  | true =>
    have eq := sh_deq hsm.1 hs.1 hde
    have hfit : fits' 31 (lsD 3 ds) x = true := by rw [← eq]; exact ls_fits (n := 3) (r := 23) hm (by simp)
    simp [si, xi]
    refine clI (ask_fits h hx ?_)
    rw [hfit]
    simp
    exact last
theorem pure_law : Pure (SLaw 63 1048576) 1 8 (T_law S__law_draw (S__law_few 5) (S__law_least 5) S__law_told S_fits_shape (S__law_fits 40)) := by
  rintro args QV EV aa1 aa2 ⟨ns, rfl, hl, hB, hq⟩
  have hbf : bf 3 = 1018 := rfl
  simp [T_law, padE, K_law_9]
  refine clI ⟨ns, 0, 7, rfl, by omega, by omega, fun i i0 i1 => ?_⟩
  simp
  refine ⟨by omega, by omega, by simp; omega, .un, rfl, fun t acc env => ∃ n', env = [scr ns, .ow (twn n'), .un, .un, .un, .un, .un, .un] ∧ n' ≤ 1 + t * 1018 ∧ acc.length = t ∧ ∀ x ∈ acc, few 3 x = true, ⟨1, rfl, by omega, rfl, (fun x hx => by cases hx)⟩, ?_, ?_⟩
  · rintro t d acc env hd ⟨n', rfl, h3, h4, h5⟩ he
    have htl : t < i.toNat := by
      have := (List.getElem?_eq_some_iff.mp hd).1
      simpa using this
    simp
    refine clI ⟨ns, n', 3, rfl, by omega, by omega, fun x n'' q1 q3 q4 => ?_⟩
    simp [dat_ins (few_dat q1)]
    refine ⟨n'', rfl, by omega, h4, fun y hy => ?_⟩
    rcases hy with hy | hy
    · exact h5 y hy
    · subst hy; exact q1
  · rintro ds env ⟨n', rfl, h3, h4, h5⟩ he
    have h4' : ds.length ≤ 6 := by simp at h4; omega
    have hn' : n' ≤ 10000 := by
      simp at h3
      have : i.toNat ≤ 6 := by omega
      have : i.toNat * 1018 ≤ 6 * 1018 := Nat.mul_le_mul_right _ this
      omega
    have hs := ls_sh h5
    have si := sf_ins hs.2
    have e1 := (sh_veq hs.1 hs.1 (by omega)).2
    rw [sh_refl hs.1] at e1
    simp [K_law_8]
    refine clI (ask_least h5 (by omega) ?_)
    simp [si, K_law_7]
    refine clI (ask_told h5 (by omega) ?_)
    simp [si, K_law_6, e1]
    refine bLc_map (s0 := .un) ds id (fun x => .bl (fits' 31 (lsD 3 ds) x)) (by simp) (by omega) rfl (fun x hx Q hQ => ?_) ?_
    · simp [si, dat_ins (few_dat (h5 x hx))]
      exact clI (ask_fits h5 (h5 x hx) (by simpa using hQ))
    · have hall : ∀ x ∈ ds, fits' 31 (lsD 3 ds) x = true := fun x hx => ls_fits (n := 3) (r := 23) h5 hx
      simp [all_bls]
      rw [if_pos hall]
      have hrev : ∀ d ∈ ds.reverse, few 3 d = true := fun d hd => h5 d (by simpa using hd)
      have er : lsD 3 ds.reverse = lsD 3 ds := ls_same fun x => by simp
      have hdbl : ∀ d ∈ ds ++ ds, few 3 d = true := fun d hd => h5 d (by simpa using hd)
      have ed : lsD 3 (ds ++ ds) = lsD 3 ds := ls_same fun x => by simp
      simp [K_law_5]
      refine o_revL rfl ?_
      simp
      refine clI (ask_told hrev (by simp; omega) ?_)
      rw [er]
      simp [si, e1]
      rw [add_lst (by omega)]
      simp
      refine clI (ask_told hdbl (by simp; omega) ?_)
      rw [ed]
      simp [si, e1, K_law_4]
      refine clI ⟨ns, n', 3, rfl, by omega, by omega, fun x n'' q1 q3 q4 => ?_⟩
      simp [dat_ins (few_dat q1)]
      exact go3 h5 h4' q1 hq
end VL
set_option linter.all false
set_option maxRecDepth 100000
set_option maxHeartbeats 4000000
namespace K91
open PySem PySem.Spec PyProof.Rows L2 VL
def top (i : Nat) : Stmt := PySem.Challenge.pw_nestways_k91_whole_least_shape.main.body.getD i (.Pass ⟨0, 0, 0, 0⟩)
abbrev s_kind_of : Stmt := top 12
abbrev N_kind_of : List Str := ["thing"]
abbrev s_is_sign : Stmt := top 13
abbrev N_is_sign : List Str := ["sign"]
abbrev s_is_word : Stmt := top 14
abbrev N_is_word : List Str := ["word", "sign"]
abbrev s_is_thing : Stmt := top 15
abbrev N_is_thing : List Str := ["thing", "deep", "kind", "one", "key"]
abbrev s_inner_things : Stmt := top 16
abbrev N_inner_things : List Str := ["thing", "key"]
abbrev s_look_thing : Stmt := top 17
abbrev N_look_thing : List Str := ["thing"]
abbrev s_is_entry : Stmt := top 23
abbrev N_is_entry : List Str := ["entry", "deep"]
abbrev s_is_table_shape : Stmt := top 24
abbrev N_is_table_shape : List Str := ["shape", "deep", "keys", "entry"]
abbrev s_is_shape : Stmt := top 25
abbrev N_is_shape : List Str := ["shape", "deep", "one"]
abbrev s_look_shape : Stmt := top 26
abbrev N_look_shape : List Str := ["shape"]
abbrev s_is_table_fit : Stmt := top 27
abbrev N_is_table_fit : List Str := ["shape", "thing", "keys", "rest", "key", "inner", "must", "entry"]
abbrev s_is_fit : Stmt := top 28
abbrev N_is_fit : List Str := ["shape", "thing", "word", "one"]
abbrev s_fits_shape : Stmt := top 29
abbrev N_fits_shape : List Str := ["shape", "thing"]
abbrev s_shape_of_rows : Stmt := top 30
abbrev N_shape_of_rows : List Str := ["rows", "inner", "row", "sizes"]
abbrev s_shape_of_tables : Stmt := top 31
abbrev N_shape_of_tables : List Str := ["tables", "keys", "table", "entries", "key", "some"]
abbrev s_shape_of_kind : Stmt := top 32
abbrev N_shape_of_kind : List Str := ["kind", "things", "word"]
abbrev s_shape_of : Stmt := top 33
abbrev N_shape_of : List Str := ["things", "found", "kind", "some", "thing"]
abbrev s_least_shape : Stmt := top 34
abbrev N_least_shape : List Str := ["things", "thing"]
abbrev s__law_cell : Stmt := top 36
abbrev N__law_cell : List Str := ["_law_script", "_law_k"]
abbrev s__law_mix : Stmt := top 37
abbrev N__law_mix : List Str := ["_law_script", "_law_k", "_law_number"]
abbrev s__law_draw : Stmt := top 38
abbrev N__law_draw : List Str := ["_law_script", "_law_town", "_law_many"]
abbrev s__law_pick : Stmt := top 39
abbrev N__law_pick : List Str := ["_law_script", "_law_town", "_law_some"]
abbrev s__law_refusal : Stmt := top 40
abbrev N__law_refusal : List Str := ["_law_held", "_law_kinds"]
abbrev s__law_kind : Stmt := top 41
abbrev N__law_kind : List Str := ["_law_thing"]
abbrev s__law_few : Stmt := top 42
abbrev N__law_few : List Str := ["_law_script", "_law_town", "_law_deep", "_law_way", "_law_found", "_law_key", "_law_some", "_law_k"]
abbrev s__law_fits : Stmt := top 43
abbrev N__law_fits : List Str := ["_law_shape", "_law_thing", "_law_word", "_law_told_here", "_law_key", "_law_within", "_law_must", "_law_one"]
abbrev s__law_least : Stmt := top 44
abbrev N__law_least : List Str := ["_law_things", "_law_found", "_law_kind_here", "_law_some", "_law_thing", "_law_within", "_law_row", "_law_sizes", "_law_word"]
abbrev s__law_entries : Stmt := top 45
abbrev N__law_entries : List Str := ["_law_tables", "_law_keys", "_law_table", "_law_key"]
abbrev s__law_told : Stmt := top 46
abbrev N__law_told : List Str := ["_law_things", "_law_held", "_law_found", "e"]
abbrev s_law : Stmt := top 47
abbrev N_law : List Str := ["_law_script", "_law_town", "_law_things", "_law_due", "_law_found", "_law_more", "_law_k", "_law_thing"]
structure MF (w : World) (K : PySem.W.Frag) (mg : Str → Option Value) : Prop where
  d_kind_of : ∃ fd, FunD K "kind_of" "kind_of" (defArgs s_kind_of) (defBody s_kind_of) (defScope s_kind_of) [] [] (He.ga K "kind_of") fd
  g_kind_of : mg "kind_of" = some (.ref (He.ga K "kind_of"))
  d_is_sign : ∃ fd, FunD K "is_sign" "is_sign" (defArgs s_is_sign) (defBody s_is_sign) (defScope s_is_sign) [] [] (He.ga K "is_sign") fd
  g_is_sign : mg "is_sign" = some (.ref (He.ga K "is_sign"))
  d_is_word : ∃ fd, FunD K "is_word" "is_word" (defArgs s_is_word) (defBody s_is_word) (defScope s_is_word) [] [] (He.ga K "is_word") fd
  g_is_word : mg "is_word" = some (.ref (He.ga K "is_word"))
  d_is_thing : ∃ fd, FunD K "is_thing" "is_thing" (defArgs s_is_thing) (defBody s_is_thing) (defScope s_is_thing) [] [] (He.ga K "is_thing") fd
  g_is_thing : mg "is_thing" = some (.ref (He.ga K "is_thing"))
  d_inner_things : ∃ fd, FunD K "inner_things" "inner_things" (defArgs s_inner_things) (defBody s_inner_things) (defScope s_inner_things) [] [] (He.ga K "inner_things") fd
  g_inner_things : mg "inner_things" = some (.ref (He.ga K "inner_things"))
  d_look_thing : ∃ fd, FunD K "look_thing" "look_thing" (defArgs s_look_thing) (defBody s_look_thing) (defScope s_look_thing) [] [] (He.ga K "look_thing") fd
  g_look_thing : mg "look_thing" = some (.ref (He.ga K "look_thing"))
  d_is_entry : ∃ fd, FunD K "is_entry" "is_entry" (defArgs s_is_entry) (defBody s_is_entry) (defScope s_is_entry) [] [] (He.ga K "is_entry") fd
  g_is_entry : mg "is_entry" = some (.ref (He.ga K "is_entry"))
  d_is_table_shape : ∃ fd, FunD K "is_table_shape" "is_table_shape" (defArgs s_is_table_shape) (defBody s_is_table_shape) (defScope s_is_table_shape) [] [] (He.ga K "is_table_shape") fd
  g_is_table_shape : mg "is_table_shape" = some (.ref (He.ga K "is_table_shape"))
  d_is_shape : ∃ fd, FunD K "is_shape" "is_shape" (defArgs s_is_shape) (defBody s_is_shape) (defScope s_is_shape) [] [] (He.ga K "is_shape") fd
  g_is_shape : mg "is_shape" = some (.ref (He.ga K "is_shape"))
  d_look_shape : ∃ fd, FunD K "look_shape" "look_shape" (defArgs s_look_shape) (defBody s_look_shape) (defScope s_look_shape) [] [] (He.ga K "look_shape") fd
  g_look_shape : mg "look_shape" = some (.ref (He.ga K "look_shape"))
  d_is_table_fit : ∃ fd, FunD K "is_table_fit" "is_table_fit" (defArgs s_is_table_fit) (defBody s_is_table_fit) (defScope s_is_table_fit) [] [] (He.ga K "is_table_fit") fd
  g_is_table_fit : mg "is_table_fit" = some (.ref (He.ga K "is_table_fit"))
  d_is_fit : ∃ fd, FunD K "is_fit" "is_fit" (defArgs s_is_fit) (defBody s_is_fit) (defScope s_is_fit) [] [] (He.ga K "is_fit") fd
  g_is_fit : mg "is_fit" = some (.ref (He.ga K "is_fit"))
  d_fits_shape : ∃ fd, FunD K "fits_shape" "fits_shape" (defArgs s_fits_shape) (defBody s_fits_shape) (defScope s_fits_shape) [] [] (He.ga K "fits_shape") fd
  g_fits_shape : mg "fits_shape" = some (.ref (He.ga K "fits_shape"))
  d_shape_of_rows : ∃ fd, FunD K "shape_of_rows" "shape_of_rows" (defArgs s_shape_of_rows) (defBody s_shape_of_rows) (defScope s_shape_of_rows) [] [] (He.ga K "shape_of_rows") fd
  g_shape_of_rows : mg "shape_of_rows" = some (.ref (He.ga K "shape_of_rows"))
  d_shape_of_tables : ∃ fd, FunD K "shape_of_tables" "shape_of_tables" (defArgs s_shape_of_tables) (defBody s_shape_of_tables) (defScope s_shape_of_tables) [] [] (He.ga K "shape_of_tables") fd
  g_shape_of_tables : mg "shape_of_tables" = some (.ref (He.ga K "shape_of_tables"))
  d_shape_of_kind : ∃ fd, FunD K "shape_of_kind" "shape_of_kind" (defArgs s_shape_of_kind) (defBody s_shape_of_kind) (defScope s_shape_of_kind) [] [] (He.ga K "shape_of_kind") fd
  g_shape_of_kind : mg "shape_of_kind" = some (.ref (He.ga K "shape_of_kind"))
  d_shape_of : ∃ fd, FunD K "shape_of" "shape_of" (defArgs s_shape_of) (defBody s_shape_of) (defScope s_shape_of) [] [] (He.ga K "shape_of") fd
  g_shape_of : mg "shape_of" = some (.ref (He.ga K "shape_of"))
  d_least_shape : ∃ fd, FunD K "least_shape" "least_shape" (defArgs s_least_shape) (defBody s_least_shape) (defScope s_least_shape) [] [] (He.ga K "least_shape") fd
  g_least_shape : mg "least_shape" = some (.ref (He.ga K "least_shape"))
  d__law_cell : ∃ fd, FunD K "_law_cell" "_law_cell" (defArgs s__law_cell) (defBody s__law_cell) (defScope s__law_cell) [] [] (He.ga K "_law_cell") fd
  g__law_cell : mg "_law_cell" = some (.ref (He.ga K "_law_cell"))
  d__law_mix : ∃ fd, FunD K "_law_mix" "_law_mix" (defArgs s__law_mix) (defBody s__law_mix) (defScope s__law_mix) [] [] (He.ga K "_law_mix") fd
  g__law_mix : mg "_law_mix" = some (.ref (He.ga K "_law_mix"))
  d__law_draw : ∃ fd, FunD K "_law_draw" "_law_draw" (defArgs s__law_draw) (defBody s__law_draw) (defScope s__law_draw) [] [] (He.ga K "_law_draw") fd
  g__law_draw : mg "_law_draw" = some (.ref (He.ga K "_law_draw"))
  d__law_pick : ∃ fd, FunD K "_law_pick" "_law_pick" (defArgs s__law_pick) (defBody s__law_pick) (defScope s__law_pick) [] [] (He.ga K "_law_pick") fd
  g__law_pick : mg "_law_pick" = some (.ref (He.ga K "_law_pick"))
  d__law_refusal : ∃ fd, FunD K "_law_refusal" "_law_refusal" (defArgs s__law_refusal) (defBody s__law_refusal) (defScope s__law_refusal) [] [] (He.ga K "_law_refusal") fd
  g__law_refusal : mg "_law_refusal" = some (.ref (He.ga K "_law_refusal"))
  d__law_kind : ∃ fd, FunD K "_law_kind" "_law_kind" (defArgs s__law_kind) (defBody s__law_kind) (defScope s__law_kind) [] [] (He.ga K "_law_kind") fd
  g__law_kind : mg "_law_kind" = some (.ref (He.ga K "_law_kind"))
  d__law_few : ∃ fd, FunD K "_law_few" "_law_few" (defArgs s__law_few) (defBody s__law_few) (defScope s__law_few) [] [] (He.ga K "_law_few") fd
  g__law_few : mg "_law_few" = some (.ref (He.ga K "_law_few"))
  d__law_fits : ∃ fd, FunD K "_law_fits" "_law_fits" (defArgs s__law_fits) (defBody s__law_fits) (defScope s__law_fits) [] [] (He.ga K "_law_fits") fd
  g__law_fits : mg "_law_fits" = some (.ref (He.ga K "_law_fits"))
  d__law_least : ∃ fd, FunD K "_law_least" "_law_least" (defArgs s__law_least) (defBody s__law_least) (defScope s__law_least) [] [] (He.ga K "_law_least") fd
  g__law_least : mg "_law_least" = some (.ref (He.ga K "_law_least"))
  d__law_entries : ∃ fd, FunD K "_law_entries" "_law_entries" (defArgs s__law_entries) (defBody s__law_entries) (defScope s__law_entries) [] [] (He.ga K "_law_entries") fd
  g__law_entries : mg "_law_entries" = some (.ref (He.ga K "_law_entries"))
  d__law_told : ∃ fd, FunD K "_law_told" "_law_told" (defArgs s__law_told) (defBody s__law_told) (defScope s__law_told) [] [] (He.ga K "_law_told") fd
  g__law_told : mg "_law_told" = some (.ref (He.ga K "_law_told"))
  d_law : ∃ fd, FunD K "law" "law" (defArgs s_law) (defBody s_law) (defScope s_law) [] [] (He.ga K "law") fd
  g_law : mg "law" = some (.ref (He.ga K "law"))
  n_ValueError : mg "ValueError" = none
  n_abs : mg "abs" = none
  n_all : mg "all" = none
  n_any : mg "any" = none
  n_bool : mg "bool" = none
  n_dict : mg "dict" = none
  n_int : mg "int" = none
  n_isinstance : mg "isinstance" = none
  n_len : mg "len" = none
  n_list : mg "list" = none
  n_max : mg "max" = none
  n_min : mg "min" = none
  n_ord : mg "ord" = none
  n_range : mg "range" = none
  n_set : mg "set" = none
  n_sorted : mg "sorted" = none
  n_str : mg "str" = none
  n_tuple : mg "tuple" = none
  c_MOST_DEEP_shapes : ∃ t, mg "MOST_DEEP_shapes" = some (.int 30 t)
  c_MOST_DEEP_things : ∃ t, mg "MOST_DEEP_things" = some (.int 12 t)
  c_MOST_MANY : ∃ t, mg "MOST_MANY" = some (.int 1000000 t)
  c_MOST_NUMBER : ∃ t, mg "MOST_NUMBER" = some (.int 999999999999999 t)
  c_MOST_SIGNS : ∃ t, mg "MOST_SIGNS" = some (.int 60 t)
  g_BadText : mg "BadText" = some (.ref (He.ga K "BadText"))
  g_BadThing : mg "BadThing" = some (.ref (He.ga K "BadThing"))
  g_BadWay : mg "BadWay" = some (.ref (He.ga K "BadWay"))
  g_NestError : mg "NestError" = some (.ref (He.ga K "NestError"))
  g_NoGo : mg "NoGo" = some (.ref (He.ga K "NoGo"))
  g_NoWay : mg "NoWay" = some (.ref (He.ga K "NoWay"))
  g_Nothing : mg "Nothing" = some (.ref (He.ga K "Nothing"))
  e_BadThing : PySem.W.excIn K (He.ga K "BadThing") He.veBase "ValueError.__new__" = true ∧ PySem.W.keepIn K (.ref (He.ga K "BadThing")) = true ∧ PySem.W.subIn K (.ref (He.ga K "BadThing")) (.type "BaseException") = some true ∧ PySem.W.typeIn K (.ref (He.ga K "BadThing")) = some (.type "type")
  t_SIZES : KTab K w mg "SIZES" kt_SIZES
  l_KINDS : KLst K mg "KINDS" kl_KINDS
  i_BadText : ∀ C r, tab i_BadText C = some r → ExcC K (He.ga K C) ∧ PySem.W.kitOne K (.ref (He.ga K C)) (.ref (He.ga K "BadText")) = some r
  i_BadThing : ∀ C r, tab i_BadThing C = some r → ExcC K (He.ga K C) ∧ PySem.W.kitOne K (.ref (He.ga K C)) (.ref (He.ga K "BadThing")) = some r
  i_BadWay : ∀ C r, tab i_BadWay C = some r → ExcC K (He.ga K C) ∧ PySem.W.kitOne K (.ref (He.ga K C)) (.ref (He.ga K "BadWay")) = some r
  i_NoGo : ∀ C r, tab i_NoGo C = some r → ExcC K (He.ga K C) ∧ PySem.W.kitOne K (.ref (He.ga K C)) (.ref (He.ga K "NoGo")) = some r
  i_NoWay : ∀ C r, tab i_NoWay C = some r → ExcC K (He.ga K C) ∧ PySem.W.kitOne K (.ref (He.ga K C)) (.ref (He.ga K "NoWay")) = some r
  i_Nothing : ∀ C r, tab i_Nothing C = some r → ExcC K (He.ga K C) ∧ PySem.W.kitOne K (.ref (He.ga K C)) (.ref (He.ga K "Nothing")) = some r
  i_ValueError : ∀ C r, tab i_ValueError C = some r → ExcC K (He.ga K C) ∧ PySem.W.kitOne K (.ref (He.ga K C)) (.type "ValueError") = some r
  m_NestError : ∀ C b, tab m_NestError C = some b → PySem.W.exmOne K (.ref (He.ga K C)) (.ref (He.ga K "NestError")) = some b
section
variable {P : Program} {w : World} {K : PySem.W.Frag} {mg : Str → Option Value} {base : Heap}
theorem sc_kind_of : FnScope N_kind_of ["thing"] (defScope s_kind_of) := ⟨rfl, rfl, rfl, by decide +kernel, rfl, by decide +kernel, by decide +kernel⟩
theorem ok_kind_of (M : MF w K mg) {k : Nat} {S : VSp} 
    (pure : ∀ args QV EV, args.length = 1 → args.all argOk = true → S args QV EV → T_kind_of  (bodyEnds args QV EV) (padE 1 args)) : VFn P w K mg base (k + 1) "kind_of" ["thing"] S := by
  obtain ⟨fd, Fd⟩ := M.d_kind_of
  refine vfn_mk (T_kind_of ) Fd M.g_kind_of sc_kind_of (fun _ _ _ _ _ _ us hl => match us, hl with | [_], _ => rfl) (fun cdv A outer s H E hr cx => ?_) pure
  exact (vss_cons (vs_if (vt_isN (vb_var (pv 0)) (VE.br ve_non)) (vss_one (vs_ret (VE.o ve_str))) vss_nil) (vss_cons (vs_if (vt_truth (VE.br (ve_isiT .bool rfl M.n_isinstance (vb_var (pv 0)) rfl M.n_bool))) (vss_one (vs_ret (VE.o ve_str))) vss_nil) (vss_cons (vs_if (vt_truth (VE.br (ve_isiT .int rfl M.n_isinstance (vb_var (pv 0)) rfl M.n_int))) (vss_one (vs_ret (VE.o ve_str))) vss_nil) (vss_cons (vs_if (vt_truth (VE.br (ve_isiT .str rfl M.n_isinstance (vb_var (pv 0)) rfl M.n_str))) (vss_one (vs_ret (VE.o ve_str))) vss_nil) (vss_one (vs_ret (VE.o (VO.e (vo_if (vt_truth (VE.br (ve_isiT .list rfl M.n_isinstance (vb_var (pv 0)) rfl M.n_list))) (VE.o ve_str) (VE.o ve_str))))))))))
theorem no_kind_of (M : MF w K mg) {k : Nat} {S : VSp} (no : ∀ args QV EV, ¬ S args QV EV) : VFn P w K mg base (k + 1) "kind_of" ["thing"] S := by
  obtain ⟨fd, Fd⟩ := M.d_kind_of
  exact vfn_never Fd M.g_kind_of sc_kind_of (fun _ _ _ _ _ _ us hl => match us, hl with | [_], _ => rfl) no

theorem sc_is_sign : FnScope N_is_sign ["sign"] (defScope s_is_sign) := ⟨rfl, rfl, rfl, by decide +kernel, rfl, by decide +kernel, by decide +kernel⟩
theorem ok_is_sign (M : MF w K mg) {k : Nat} {S : VSp} 
    (pure : ∀ args QV EV, args.length = 1 → args.all argOk = true → S args QV EV → T_is_sign  (bodyEnds args QV EV) (padE 1 args)) : VFn P w K mg base (k + 1) "is_sign" ["sign"] S := by
  obtain ⟨fd, Fd⟩ := M.d_is_sign
  refine vfn_mk (T_is_sign ) Fd M.g_is_sign sc_is_sign (fun _ _ _ _ _ _ us hl => match us, hl with | [_], _ => rfl) (fun cdv A outer s H E hr cx => ?_) pure
  exact (vss_one (vs_ret (VE.o (ve_and (VO.e (vo_chain op_le op_lt snd_cmpI snd_cmpI (VE.br ve_int) (VE.br (VO.e (vo_ord cx rfl M.n_ord (va_cons (vb_var (pv 0)) va_nil)))) (VE.br ve_int) (fun _ _ _ h1 h2 h3 => pe_chain op_le op_lt h1 h2 h3))) (ve_one (VO.e (vo_ne cx.hr (VE.br (VO.e (vo_ord cx rfl M.n_ord (va_cons (vb_var (pv 0)) va_nil)))) (VE.br ve_int))))))))
theorem no_is_sign (M : MF w K mg) {k : Nat} {S : VSp} (no : ∀ args QV EV, ¬ S args QV EV) : VFn P w K mg base (k + 1) "is_sign" ["sign"] S := by
  obtain ⟨fd, Fd⟩ := M.d_is_sign
  exact vfn_never Fd M.g_is_sign sc_is_sign (fun _ _ _ _ _ _ us hl => match us, hl with | [_], _ => rfl) no

theorem sc_is_word : FnScope N_is_word ["word"] (defScope s_is_word) := ⟨rfl, rfl, rfl, by decide +kernel, rfl, by decide +kernel, by decide +kernel⟩
theorem ok_is_word (M : MF w K mg) {k : Nat} {S_is_sign : VSp} {S : VSp} (F_is_sign : VFn P w K mg base k "is_sign" ["sign"] S_is_sign)
    (pure : ∀ args QV EV, args.length = 1 → args.all argOk = true → S args QV EV → T_is_word S_is_sign (bodyEnds args QV EV) (padE 2 args)) : VFn P w K mg base (k + 1) "is_word" ["word"] S := by
  obtain ⟨fd, Fd⟩ := M.d_is_word
  refine vfn_mk (T_is_word S_is_sign) Fd M.g_is_word sc_is_word (fun _ _ _ _ _ _ us hl => match us, hl with | [_], _ => rfl) (fun cdv A outer s H E hr cx => ?_) pure
  exact (vss_one (vs_ret (VE.o (ve_and (VO.e (vo_le (VE.br (VO.e (vo_len rfl M.n_len (va_cons (vb_var (pv 0)) va_nil)))) (VE.br (ve_gint rfl M.c_MOST_SIGNS)))) (ve_one (VO.e (vo_all cx rfl M.n_all (va_cons (VE.br (VO.e (VLc.vo (vlc_it cx (vi_str (ve_var (pv 0))) (blkOk_by (own := [("sign", 1)]) (N := N_is_word) (sc := defScope s_is_word) (by decide +kernel)) ⟨fun _ _ _ _ _ => pg_name (i := 1) cx.nd rfl (Or.inl rfl), fun _ _ _ _ _ cx1 => vts_nil, fun _ _ _ _ _ cx1 => (VO.e (vo_call cx1 F_is_sign (Nat.le_refl _) rfl (va_cons (VE.br (ve_var (pv 1))) va_nil)))⟩)))) va_nil))))))))
theorem no_is_word (M : MF w K mg) {k : Nat} {S : VSp} (no : ∀ args QV EV, ¬ S args QV EV) : VFn P w K mg base (k + 1) "is_word" ["word"] S := by
  obtain ⟨fd, Fd⟩ := M.d_is_word
  exact vfn_never Fd M.g_is_word sc_is_word (fun _ _ _ _ _ _ us hl => match us, hl with | [_], _ => rfl) no

theorem sc_is_thing : FnScope N_is_thing ["thing", "deep"] (defScope s_is_thing) := ⟨rfl, rfl, rfl, by decide +kernel, rfl, by decide +kernel, by decide +kernel⟩
theorem ok_is_thing (M : MF w K mg) {k : Nat} {S_kind_of S_is_word S_inner_things S_is_thing : VSp} {S : VSp} (F_kind_of : VFn P w K mg base k "kind_of" ["thing"] S_kind_of) (F_is_word : VFn P w K mg base k "is_word" ["word"] S_is_word) (F_inner_things : VFn P w K mg base k "inner_things" ["thing"] S_inner_things) (F_is_thing : VFn P w K mg base k "is_thing" ["thing", "deep"] S_is_thing)
    (pure : ∀ args QV EV, args.length = 2 → args.all argOk = true → S args QV EV → T_is_thing S_kind_of S_is_word S_inner_things S_is_thing (bodyEnds args QV EV) (padE 5 args)) : VFn P w K mg base (k + 1) "is_thing" ["thing", "deep"] S := by
  obtain ⟨fd, Fd⟩ := M.d_is_thing
  refine vfn_mk (T_is_thing S_kind_of S_is_word S_inner_things S_is_thing) Fd M.g_is_thing sc_is_thing (fun _ _ _ _ _ _ us hl => match us, hl with | [_, _], _ => rfl) (fun cdv A outer s H E hr cx => ?_) pure
  exact (vss_cons (vs_set (i := 2) cx.nd rfl (by first | exact Or.inl rfl | exact Or.inr rfl) (VE.o (VO.e (vo_call cx F_kind_of (Nat.le_refl _) rfl (va_cons (VE.br (ve_var (pv 0))) va_nil))))) (vss_cons (vs_if (vt_eq cx.hr (vb_var (pv 2)) (VE.br ve_str)) (vss_one (vs_ret (VE.o (VO.e (vo_le (VE.br (VO.e (vo_abs cx rfl M.n_abs (va_cons (vb_var (pv 0)) va_nil)))) (VE.br (ve_gint rfl M.c_MOST_NUMBER))))))) vss_nil) (vss_cons (vs_if (vt_eq cx.hr (vb_var (pv 2)) (VE.br ve_str)) (vss_one (vs_ret (VE.o (VO.e (vo_call cx F_is_word (Nat.le_refl _) rfl (va_cons (VE.br (ve_var (pv 0))) va_nil)))))) vss_nil) (vss_cons (vs_if (vt_notIn cx.hr (vb_var (pv 2)) (VE.br (ve_tup (va_cons (VE.br ve_str) (va_cons (VE.br ve_str) va_nil))))) (vss_one (vs_ret (VE.o ve_bl))) vss_nil) (vss_cons (vs_if (VW.t (vw_or (vt_eq cx.hr (vb_var (pv 1)) (VE.br (ve_gint rfl M.c_MOST_DEEP_things))) (vw_or1 (VW.t (vw_and (vt_eq cx.hr (vb_var (pv 2)) (VE.br ve_str)) (vw_and1 (vt_not (vt_truth (VE.br (VO.e (vo_all cx rfl M.n_all (va_cons (VE.br (VO.e (VLc.vo (vlc_keys cx (pv 0) (blkOk_by (own := [("key", 4)]) (N := N_is_thing) (sc := defScope s_is_thing) (by decide +kernel)) ⟨fun _ _ _ _ _ => pg_name (i := 4) cx.nd rfl (Or.inl rfl), fun _ _ _ _ _ cx1 => vts_nil, fun _ _ _ _ _ cx1 => (VO.e (vo_call cx1 F_is_word (Nat.le_refl _) rfl (va_cons (VE.br (ve_var (pv 4))) va_nil)))⟩)))) va_nil)))))))))))) (vss_one (vs_ret (VE.o ve_bl))) vss_nil) (vss_one (vs_ret (VE.o (VO.e (vo_all cx rfl M.n_all (va_cons (VE.br (VO.e (VLc.vo (vlc_it cx (vi_list (VO.e (vo_call cx F_inner_things (Nat.le_refl _) rfl (va_cons (VE.br (ve_var (pv 0))) va_nil)))) (blkOk_by (own := [("one", 3)]) (N := N_is_thing) (sc := defScope s_is_thing) (by decide +kernel)) ⟨fun _ _ _ _ _ => pg_name (i := 3) cx.nd rfl (Or.inl rfl), fun _ _ _ _ _ cx2 => vts_nil, fun _ _ _ _ _ cx2 => (VO.e (vo_call cx2 F_is_thing (Nat.le_refl _) rfl (va_cons (VE.br (ve_var (pv 3))) (va_cons (VE.br (VO.e (vo_add (vb_var (pv 1)) (VE.br ve_int)))) va_nil))))⟩)))) va_nil)))))))))))
theorem no_is_thing (M : MF w K mg) {k : Nat} {S : VSp} (no : ∀ args QV EV, ¬ S args QV EV) : VFn P w K mg base (k + 1) "is_thing" ["thing", "deep"] S := by
  obtain ⟨fd, Fd⟩ := M.d_is_thing
  exact vfn_never Fd M.g_is_thing sc_is_thing (fun _ _ _ _ _ _ us hl => match us, hl with | [_, _], _ => rfl) no

theorem sc_inner_things : FnScope N_inner_things ["thing"] (defScope s_inner_things) := ⟨rfl, rfl, rfl, by decide +kernel, rfl, by decide +kernel, by decide +kernel⟩
theorem ok_inner_things (M : MF w K mg) {k : Nat} {S_kind_of : VSp} {S : VSp} (F_kind_of : VFn P w K mg base k "kind_of" ["thing"] S_kind_of)
    (pure : ∀ args QV EV, args.length = 1 → args.all argOk = true → S args QV EV → T_inner_things S_kind_of (bodyEnds args QV EV) (padE 2 args)) : VFn P w K mg base (k + 1) "inner_things" ["thing"] S := by
  obtain ⟨fd, Fd⟩ := M.d_inner_things
  refine vfn_mk (T_inner_things S_kind_of) Fd M.g_inner_things sc_inner_things (fun _ _ _ _ _ _ us hl => match us, hl with | [_], _ => rfl) (fun cdv A outer s H E hr cx => ?_) pure
  exact (vss_cons (vs_if (vt_eq cx.hr (VE.br (VO.e (vo_call cx F_kind_of (Nat.le_refl _) rfl (va_cons (VE.br (ve_var (pv 0))) va_nil)))) (VE.br ve_str)) (vss_one (vs_ret (VE.o (VO.e (vo_listOf rfl M.n_list (va_cons (vb_var (pv 0)) va_nil)))))) vss_nil) (vss_one (vs_ret (VE.o (VO.e (vo_if (vt_eq cx.hr (VE.br (VO.e (vo_call cx F_kind_of (Nat.le_refl _) rfl (va_cons (VE.br (ve_var (pv 0))) va_nil)))) (VE.br ve_str)) (VLc.vo (vlc_it cx (vi_list (VO.e (vo_sortKeys cx rfl M.n_sorted (vb_var (pv 0))))) (blkOk_by (own := [("key", 1)]) (N := N_inner_things) (sc := defScope s_inner_things) (by decide +kernel)) ⟨fun _ _ _ _ _ => pg_name (i := 1) cx.nd rfl (Or.inl rfl), fun _ _ _ _ _ cx1 => vts_nil, fun _ _ _ _ _ cx1 => (VO.e (vo_index cx1.hr (vb_var (pv 0)) (vb_var (pv 1))))⟩)) (vo_lst va_nil)))))))
theorem no_inner_things (M : MF w K mg) {k : Nat} {S : VSp} (no : ∀ args QV EV, ¬ S args QV EV) : VFn P w K mg base (k + 1) "inner_things" ["thing"] S := by
  obtain ⟨fd, Fd⟩ := M.d_inner_things
  exact vfn_never Fd M.g_inner_things sc_inner_things (fun _ _ _ _ _ _ us hl => match us, hl with | [_], _ => rfl) no

theorem sc_look_thing : FnScope N_look_thing ["thing"] (defScope s_look_thing) := ⟨rfl, rfl, rfl, by decide +kernel, rfl, by decide +kernel, by decide +kernel⟩
theorem ok_look_thing (M : MF w K mg) {k : Nat} {S_is_thing : VSp} {S : VSp} (F_is_thing : VFn P w K mg base k "is_thing" ["thing", "deep"] S_is_thing)
    (pure : ∀ args QV EV, args.length = 1 → args.all argOk = true → S args QV EV → T_look_thing S_is_thing (bodyEnds args QV EV) (padE 1 args)) : VFn P w K mg base (k + 1) "look_thing" ["thing"] S := by
  obtain ⟨fd, Fd⟩ := M.d_look_thing
  refine vfn_mk (T_look_thing S_is_thing) Fd M.g_look_thing sc_look_thing (fun _ _ _ _ _ _ us hl => match us, hl with | [_], _ => rfl) (fun cdv A outer s H E hr cx => ?_) pure
  exact (vss_one (vs_if (vt_not (vt_truth (VE.br (VO.e (vo_call cx F_is_thing (Nat.le_refl _) rfl (va_cons (VE.br (ve_var (pv 0))) (va_cons (VE.br ve_int) va_nil))))))) (vss_one (vs_raise cx PySem.F.excBase_ValueError M.e_BadThing.1 M.g_BadThing M.e_BadThing.2.1 (raises_own M.e_BadThing.2.2.1 M.e_BadThing.2.2.2) rfl)) vss_nil))
theorem no_look_thing (M : MF w K mg) {k : Nat} {S : VSp} (no : ∀ args QV EV, ¬ S args QV EV) : VFn P w K mg base (k + 1) "look_thing" ["thing"] S := by
  obtain ⟨fd, Fd⟩ := M.d_look_thing
  exact vfn_never Fd M.g_look_thing sc_look_thing (fun _ _ _ _ _ _ us hl => match us, hl with | [_], _ => rfl) no

theorem sc_is_entry : FnScope N_is_entry ["entry", "deep"] (defScope s_is_entry) := ⟨rfl, rfl, rfl, by decide +kernel, rfl, by decide +kernel, by decide +kernel⟩
theorem ok_is_entry (M : MF w K mg) {k : Nat} {S_is_word S_is_shape : VSp} {S : VSp} (F_is_word : VFn P w K mg base k "is_word" ["word"] S_is_word) (F_is_shape : VFn P w K mg base k "is_shape" ["shape", "deep"] S_is_shape)
    (pure : ∀ args QV EV, args.length = 2 → args.all argOk = true → S args QV EV → T_is_entry S_is_word S_is_shape (bodyEnds args QV EV) (padE 2 args)) : VFn P w K mg base (k + 1) "is_entry" ["entry", "deep"] S := by
  obtain ⟨fd, Fd⟩ := M.d_is_entry
  refine vfn_mk (T_is_entry S_is_word S_is_shape) Fd M.g_is_entry sc_is_entry (fun _ _ _ _ _ _ us hl => match us, hl with | [_, _], _ => rfl) (fun cdv A outer s H E hr cx => ?_) pure
  exact (vss_one (vs_ret (VE.o (ve_and (VO.e (vo_eq cx.hr (VE.br (VO.e (vo_len rfl M.n_len (va_cons (vb_var (pv 0)) va_nil)))) (VE.br ve_int))) (ve_and (VO.e (vo_call cx F_is_word (Nat.le_refl _) rfl (va_cons (VE.br (VO.e (vo_index cx.hr (vb_var (pv 0)) (VE.br ve_int)))) va_nil))) (ve_and (VO.e (vo_call cx F_is_shape (Nat.le_refl _) rfl (va_cons (VE.br (VO.e (vo_index cx.hr (vb_var (pv 0)) (VE.br ve_int)))) (va_cons (VE.br (ve_var (pv 1))) va_nil)))) (ve_one (VO.e (vo_in cx.hr (VE.br (VO.e (vo_index cx.hr (vb_var (pv 0)) (VE.br ve_int)))) (VE.br (ve_tup (va_cons (VE.br ve_bl) (va_cons (VE.br ve_bl) va_nil)))))))))))))
theorem no_is_entry (M : MF w K mg) {k : Nat} {S : VSp} (no : ∀ args QV EV, ¬ S args QV EV) : VFn P w K mg base (k + 1) "is_entry" ["entry", "deep"] S := by
  obtain ⟨fd, Fd⟩ := M.d_is_entry
  exact vfn_never Fd M.g_is_entry sc_is_entry (fun _ _ _ _ _ _ us hl => match us, hl with | [_, _], _ => rfl) no

theorem sc_is_table_shape : FnScope N_is_table_shape ["shape", "deep"] (defScope s_is_table_shape) := ⟨rfl, rfl, rfl, by decide +kernel, rfl, by decide +kernel, by decide +kernel⟩
theorem ok_is_table_shape (M : MF w K mg) {k : Nat} {S_is_entry S_is_shape : VSp} {S : VSp} (F_is_entry : VFn P w K mg base k "is_entry" ["entry", "deep"] S_is_entry) (F_is_shape : VFn P w K mg base k "is_shape" ["shape", "deep"] S_is_shape)
    (pure : ∀ args QV EV, args.length = 2 → args.all argOk = true → S args QV EV → T_is_table_shape S_is_entry S_is_shape (bodyEnds args QV EV) (padE 4 args)) : VFn P w K mg base (k + 1) "is_table_shape" ["shape", "deep"] S := by
  obtain ⟨fd, Fd⟩ := M.d_is_table_shape
  refine vfn_mk (T_is_table_shape S_is_entry S_is_shape) Fd M.g_is_table_shape sc_is_table_shape (fun _ _ _ _ _ _ us hl => match us, hl with | [_, _], _ => rfl) (fun cdv A outer s H E hr cx => ?_) pure
  exact (vss_cons (vs_if (vt_not (vt_truth (VE.br (VO.e (vo_all cx rfl M.n_all (va_cons (VE.br (VO.e (VLc.vo (vlc_it cx (vi_tup (VO.e (vo_index cx.hr (vb_var (pv 0)) (VE.br ve_int)))) (blkOk_by (own := [("entry", 3)]) (N := N_is_table_shape) (sc := defScope s_is_table_shape) (by decide +kernel)) ⟨fun _ _ _ _ _ => pg_name (i := 3) cx.nd rfl (Or.inl rfl), fun _ _ _ _ _ cx1 => vts_nil, fun _ _ _ _ _ cx1 => (VO.e (vo_call cx1 F_is_entry (Nat.le_refl _) rfl (va_cons (VE.br (ve_var (pv 3))) (va_cons (VE.br (VO.e (vo_add (vb_var (pv 1)) (VE.br ve_int)))) va_nil))))⟩)))) va_nil)))))) (vss_one (vs_ret (VE.o ve_bl))) vss_nil) (vss_cons (VLc.set (j := 2) (VLc.sh (vlc_it cx (vi_tup (VO.e (vo_index cx.hr (vb_var (pv 0)) (VE.br ve_int)))) (blkOk_by (own := [("entry", 3)]) (N := N_is_table_shape) (sc := defScope s_is_table_shape) (by decide +kernel)) ⟨fun _ _ _ _ _ => pg_name (i := 3) cx.nd rfl (Or.inl rfl), fun _ _ _ _ _ cx2 => vts_nil, fun _ _ _ _ _ cx2 => (VO.e (vo_index cx2.hr (vb_var (pv 3)) (VE.br ve_int)))⟩)) rfl rfl) (vss_one (vs_ret (VE.o (ve_and (VO.e (vo_eq cx.hr (vb_var (pv 2)) (VE.br (VO.e (vo_ss cx rfl M.n_sorted rfl M.n_set (vb_var (pv 2))))))) (ve_one (ve_or (VO.e (vo_isN (VE.br (VO.e (vo_index cx.hr (vb_var (pv 0)) (VE.br ve_int)))) (VE.br ve_non))) (ve_one (VO.e (vo_call cx F_is_shape (Nat.le_refl _) rfl (va_cons (VE.br (VO.e (vo_index cx.hr (vb_var (pv 0)) (VE.br ve_int)))) (va_cons (VE.br (VO.e (vo_add (vb_var (pv 1)) (VE.br ve_int)))) va_nil)))))))))))))
theorem no_is_table_shape (M : MF w K mg) {k : Nat} {S : VSp} (no : ∀ args QV EV, ¬ S args QV EV) : VFn P w K mg base (k + 1) "is_table_shape" ["shape", "deep"] S := by
  obtain ⟨fd, Fd⟩ := M.d_is_table_shape
  exact vfn_never Fd M.g_is_table_shape sc_is_table_shape (fun _ _ _ _ _ _ us hl => match us, hl with | [_, _], _ => rfl) no

theorem sc_is_shape : FnScope N_is_shape ["shape", "deep"] (defScope s_is_shape) := ⟨rfl, rfl, rfl, by decide +kernel, rfl, by decide +kernel, by decide +kernel⟩
theorem ok_is_shape (M : MF w K mg) {k : Nat} {S_is_shape S_is_table_shape : VSp} {S : VSp} (F_is_shape : VFn P w K mg base k "is_shape" ["shape", "deep"] S_is_shape) (F_is_table_shape : VFn P w K mg base k "is_table_shape" ["shape", "deep"] S_is_table_shape)
    (pure : ∀ args QV EV, args.length = 2 → args.all argOk = true → S args QV EV → T_is_shape S_is_shape S_is_table_shape (bodyEnds args QV EV) (padE 3 args)) : VFn P w K mg base (k + 1) "is_shape" ["shape", "deep"] S := by
  obtain ⟨fd, Fd⟩ := M.d_is_shape
  refine vfn_mk (T_is_shape S_is_shape S_is_table_shape) Fd M.g_is_shape sc_is_shape (fun _ _ _ _ _ _ us hl => match us, hl with | [_, _], _ => rfl) (fun cdv A outer s H E hr cx => ?_) pure
  exact (vss_cons (vs_if (VW.t (vw_or (vt_not (vt_truth (vb_var (pv 0)))) (vw_or (vt_ne cx.hr (VE.br (VO.e (vo_len rfl M.n_len (va_cons (vb_var (pv 0)) va_nil)))) (VE.br (ve_kget M.t_SIZES rfl (VE.br (VO.e (vo_index cx.hr (vb_var (pv 0)) (VE.br ve_int)))) ve_int ⟨rfl, rfl, rfl, rfl⟩))) (vw_or1 (vt_gt (vb_var (pv 1)) (VE.br (ve_gint rfl M.c_MOST_DEEP_shapes))))))) (vss_one (vs_ret (VE.o ve_bl))) vss_nil) (vss_cons (vs_if (vt_eq cx.hr (VE.br (VO.e (vo_index cx.hr (vb_var (pv 0)) (VE.br ve_int)))) (VE.br ve_str)) (vss_one (vs_ret (VE.o (VO.e (vo_chain3 op_le op_le op_le snd_cmpI snd_cmpI snd_cmpI (VE.br (VO.e (vo_neg (VE.br (ve_gint rfl M.c_MOST_NUMBER))))) (VE.br (VO.e (vo_index cx.hr (vb_var (pv 0)) (VE.br ve_int)))) (VE.br (VO.e (vo_index cx.hr (vb_var (pv 0)) (VE.br ve_int)))) (VE.br (ve_gint rfl M.c_MOST_NUMBER))))))) vss_nil) (vss_cons (vs_if (vt_eq cx.hr (VE.br (VO.e (vo_index cx.hr (vb_var (pv 0)) (VE.br ve_int)))) (VE.br ve_str)) (vss_one (vs_ret (VE.o (VO.e (vo_chain op_le op_le snd_cmpI snd_cmpI (VE.br ve_int) (VE.br (VO.e (vo_index cx.hr (vb_var (pv 0)) (VE.br ve_int)))) (VE.br (ve_gint rfl M.c_MOST_SIGNS)) (fun _ _ _ h1 h2 h3 => pe_chain op_le op_le h1 h2 h3)))))) vss_nil) (vss_cons (vs_if (vt_eq cx.hr (VE.br (VO.e (vo_index cx.hr (vb_var (pv 0)) (VE.br ve_int)))) (VE.br ve_str)) (vss_one (vs_ret (VE.o (ve_and (VO.e (vo_chain3 op_le op_le op_le snd_cmpI snd_cmpI snd_cmpI (VE.br ve_int) (VE.br (VO.e (vo_index cx.hr (vb_var (pv 0)) (VE.br ve_int)))) (VE.br (VO.e (vo_index cx.hr (vb_var (pv 0)) (VE.br ve_int)))) (VE.br (ve_gint rfl M.c_MOST_MANY)))) (ve_one (VO.e (vo_call cx F_is_shape (Nat.le_refl _) rfl (va_cons (VE.br (VO.e (vo_index cx.hr (vb_var (pv 0)) (VE.br ve_int)))) (va_cons (VE.br (VO.e (vo_add (vb_var (pv 1)) (VE.br ve_int)))) va_nil))))))))) vss_nil) (vss_cons (vs_if (vt_eq cx.hr (VE.br (VO.e (vo_index cx.hr (vb_var (pv 0)) (VE.br ve_int)))) (VE.br ve_str)) (vss_one (vs_ret (VE.o (VO.e (vo_call cx F_is_table_shape (Nat.le_refl _) rfl (va_cons (VE.br (ve_var (pv 0))) (va_cons (VE.br (ve_var (pv 1))) va_nil))))))) vss_nil) (vss_one (vs_ret (VE.o (ve_or (VO.e (vo_ne cx.hr (VE.br (VO.e (vo_index cx.hr (vb_var (pv 0)) (VE.br ve_int)))) (VE.br ve_str))) (ve_one (VO.e (vo_all cx rfl M.n_all (va_cons (VE.br (VO.e (VLc.vo (vlc_it cx (vi_tup (VO.e (vo_index cx.hr (vb_var (pv 0)) (VE.br ve_int)))) (blkOk_by (own := [("one", 2)]) (N := N_is_shape) (sc := defScope s_is_shape) (by decide +kernel)) ⟨fun _ _ _ _ _ => pg_name (i := 2) cx.nd rfl (Or.inl rfl), fun _ _ _ _ _ cx1 => vts_nil, fun _ _ _ _ _ cx1 => (VO.e (vo_call cx1 F_is_shape (Nat.le_refl _) rfl (va_cons (VE.br (ve_var (pv 2))) (va_cons (VE.br (VO.e (vo_add (vb_var (pv 1)) (VE.br ve_int)))) va_nil))))⟩)))) va_nil)))))))))))))
theorem no_is_shape (M : MF w K mg) {k : Nat} {S : VSp} (no : ∀ args QV EV, ¬ S args QV EV) : VFn P w K mg base (k + 1) "is_shape" ["shape", "deep"] S := by
  obtain ⟨fd, Fd⟩ := M.d_is_shape
  exact vfn_never Fd M.g_is_shape sc_is_shape (fun _ _ _ _ _ _ us hl => match us, hl with | [_, _], _ => rfl) no

theorem sc_look_shape : FnScope N_look_shape ["shape"] (defScope s_look_shape) := ⟨rfl, rfl, rfl, by decide +kernel, rfl, by decide +kernel, by decide +kernel⟩
theorem ok_look_shape (M : MF w K mg) {k : Nat} {S_is_shape : VSp} {S : VSp} (F_is_shape : VFn P w K mg base k "is_shape" ["shape", "deep"] S_is_shape)
    (pure : ∀ args QV EV, args.length = 1 → args.all argOk = true → S args QV EV → T_look_shape S_is_shape (bodyEnds args QV EV) (padE 1 args)) : VFn P w K mg base (k + 1) "look_shape" ["shape"] S := by
  obtain ⟨fd, Fd⟩ := M.d_look_shape
  refine vfn_mk (T_look_shape S_is_shape) Fd M.g_look_shape sc_look_shape (fun _ _ _ _ _ _ us hl => match us, hl with | [_], _ => rfl) (fun cdv A outer s H E hr cx => ?_) pure
  exact (vss_one (vs_if (vt_not (vt_truth (VE.br (VO.e (vo_call cx F_is_shape (Nat.le_refl _) rfl (va_cons (VE.br (ve_var (pv 0))) (va_cons (VE.br ve_int) va_nil))))))) (vss_one (vs_raise cx PySem.F.excBase_ValueError M.e_BadThing.1 M.g_BadThing M.e_BadThing.2.1 (raises_own M.e_BadThing.2.2.1 M.e_BadThing.2.2.2) rfl)) vss_nil))
theorem no_look_shape (M : MF w K mg) {k : Nat} {S : VSp} (no : ∀ args QV EV, ¬ S args QV EV) : VFn P w K mg base (k + 1) "look_shape" ["shape"] S := by
  obtain ⟨fd, Fd⟩ := M.d_look_shape
  exact vfn_never Fd M.g_look_shape sc_look_shape (fun _ _ _ _ _ _ us hl => match us, hl with | [_], _ => rfl) no

theorem sc_is_table_fit : FnScope N_is_table_fit ["shape", "thing"] (defScope s_is_table_fit) := ⟨rfl, rfl, rfl, by decide +kernel, rfl, by decide +kernel, by decide +kernel⟩
theorem ok_is_table_fit (M : MF w K mg) {k : Nat} {S_is_fit : VSp} {S : VSp} (F_is_fit : VFn P w K mg base k "is_fit" ["shape", "thing"] S_is_fit)
    (pure : ∀ args QV EV, args.length = 2 → args.all argOk = true → S args QV EV → T_is_table_fit S_is_fit (bodyEnds args QV EV) (padE 8 args)) : VFn P w K mg base (k + 1) "is_table_fit" ["shape", "thing"] S := by
  obtain ⟨fd, Fd⟩ := M.d_is_table_fit
  refine vfn_mk (T_is_table_fit S_is_fit) Fd M.g_is_table_fit sc_is_table_fit (fun _ _ _ _ _ _ us hl => match us, hl with | [_, _], _ => rfl) (fun cdv A outer s H E hr cx => ?_) pure
  exact (vss_cons (vs_set (i := 2) cx.nd rfl (by first | exact Or.inl rfl | exact Or.inr rfl) (VE.o (VO.e (VLc.vo (vlc_it cx (vi_tup (VO.e (vo_index cx.hr (vb_var (pv 0)) (VE.br ve_int)))) (blkOk_by (own := [("entry", 7)]) (N := N_is_table_fit) (sc := defScope s_is_table_fit) (by decide +kernel)) ⟨fun _ _ _ _ _ => pg_name (i := 7) cx.nd rfl (Or.inl rfl), fun _ _ _ _ _ cx1 => vts_nil, fun _ _ _ _ _ cx1 => (VO.e (vo_index cx1.hr (vb_var (pv 7)) (VE.br ve_int)))⟩))))) (vss_cons (vs_forG cx (vi_tup (VO.e (vo_index cx.hr (vb_var (pv 0)) (VE.br ve_int)))) (vg_tup cx.calm (vgs_cons (vg_name (i := 4) cx.nd rfl (by first | exact Or.inl rfl | exact Or.inr rfl)) (vgs_cons (vg_name (i := 5) cx.nd rfl (by first | exact Or.inl rfl | exact Or.inr rfl)) (vgs_cons (vg_name (i := 6) cx.nd rfl (by first | exact Or.inl rfl | exact Or.inr rfl)) vgs_nil))) (gsC_len (gsC_len (gsC_len (fun _ _ _ h => gsN_len h) gN_any) gN_any) gN_any)) (vss_one (vs_if (VW.t (vw_or (VW.t (vw_and (vt_in cx.hr (vb_var (pv 4)) (vb_var (pv 1))) (vw_and1 (vt_not (vt_truth (VE.br (VO.e (vo_call cx F_is_fit (Nat.le_refl _) rfl (va_cons (VE.br (ve_var (pv 5))) (va_cons (VE.br (VO.e (vo_index cx.hr (vb_var (pv 1)) (vb_var (pv 4))))) va_nil)))))))))) (vw_or1 (VW.t (vw_and (vt_truth (vb_var (pv 6))) (vw_and1 (vt_notIn cx.hr (vb_var (pv 4)) (vb_var (pv 1))))))))) (vss_one (vs_ret (VE.o ve_bl))) vss_nil))) (vss_cons (VLc.set (j := 3) (VLc.sh (vlc_keys cx (pv 1) (blkOk_by (own := [("key", 4)]) (N := N_is_table_fit) (sc := defScope s_is_table_fit) (by decide +kernel)) ⟨fun _ _ _ _ _ => pg_name (i := 4) cx.nd rfl (Or.inl rfl), fun _ _ _ _ _ cx2 => (vts_one (vt_notIn cx2.hr (vb_var (pv 4)) (vb_var (pv 2)))), fun _ _ _ _ _ cx2 => (ve_var (pv 4))⟩)) rfl rfl) (vss_one (vs_ret (VE.o (VO.e (vo_all cx rfl M.n_all (va_cons (VE.br (VO.e (VLc.vo (vlc_it cx (vi_list (ve_var (pv 3))) (blkOk_by (own := [("key", 4)]) (N := N_is_table_fit) (sc := defScope s_is_table_fit) (by decide +kernel)) ⟨fun _ _ _ _ _ => pg_name (i := 4) cx.nd rfl (Or.inl rfl), fun _ _ _ _ _ cx3 => vts_nil, fun _ _ _ _ _ cx3 => (ve_and (VO.e (vo_notN (VE.br (VO.e (vo_index cx3.hr (vb_var (pv 0)) (VE.br ve_int)))) (VE.br ve_non))) (ve_one (VO.e (vo_call cx3 F_is_fit (Nat.le_refl _) rfl (va_cons (VE.br (VO.e (vo_index cx3.hr (vb_var (pv 0)) (VE.br ve_int)))) (va_cons (VE.br (VO.e (vo_index cx3.hr (vb_var (pv 1)) (vb_var (pv 4))))) va_nil))))))⟩)))) va_nil)))))))))
theorem no_is_table_fit (M : MF w K mg) {k : Nat} {S : VSp} (no : ∀ args QV EV, ¬ S args QV EV) : VFn P w K mg base (k + 1) "is_table_fit" ["shape", "thing"] S := by
  obtain ⟨fd, Fd⟩ := M.d_is_table_fit
  exact vfn_never Fd M.g_is_table_fit sc_is_table_fit (fun _ _ _ _ _ _ us hl => match us, hl with | [_, _], _ => rfl) no

theorem sc_is_fit : FnScope N_is_fit ["shape", "thing"] (defScope s_is_fit) := ⟨rfl, rfl, rfl, by decide +kernel, rfl, by decide +kernel, by decide +kernel⟩
theorem ok_is_fit (M : MF w K mg) {k : Nat} {S_is_fit S_kind_of S_is_table_fit : VSp} {S : VSp} (F_is_fit : VFn P w K mg base k "is_fit" ["shape", "thing"] S_is_fit) (F_kind_of : VFn P w K mg base k "kind_of" ["thing"] S_kind_of) (F_is_table_fit : VFn P w K mg base k "is_table_fit" ["shape", "thing"] S_is_table_fit)
    (pure : ∀ args QV EV, args.length = 2 → args.all argOk = true → S args QV EV → T_is_fit S_is_fit S_kind_of S_is_table_fit (bodyEnds args QV EV) (padE 4 args)) : VFn P w K mg base (k + 1) "is_fit" ["shape", "thing"] S := by
  obtain ⟨fd, Fd⟩ := M.d_is_fit
  refine vfn_mk (T_is_fit S_is_fit S_kind_of S_is_table_fit) Fd M.g_is_fit sc_is_fit (fun _ _ _ _ _ _ us hl => match us, hl with | [_, _], _ => rfl) (fun cdv A outer s H E hr cx => ?_) pure
  exact (vss_cons (vs_set (i := 2) cx.nd rfl (by first | exact Or.inl rfl | exact Or.inr rfl) (VE.o (VO.e (vo_index cx.hr (vb_var (pv 0)) (VE.br ve_int))))) (vss_cons (vs_if (vt_eq cx.hr (vb_var (pv 2)) (VE.br ve_str)) (vss_one (vs_ret (VE.o ve_bl))) vss_nil) (vss_cons (vs_if (vt_eq cx.hr (vb_var (pv 2)) (VE.br ve_str)) (vss_one (vs_ret (VE.o (VO.e (vo_any cx rfl M.n_any (va_cons (VE.br (VO.e (VLc.vo (vlc_it cx (vi_tup (VO.e (vo_index cx.hr (vb_var (pv 0)) (VE.br ve_int)))) (blkOk_by (own := [("one", 3)]) (N := N_is_fit) (sc := defScope s_is_fit) (by decide +kernel)) ⟨fun _ _ _ _ _ => pg_name (i := 3) cx.nd rfl (Or.inl rfl), fun _ _ _ _ _ cx1 => vts_nil, fun _ _ _ _ _ cx1 => (VO.e (vo_call cx1 F_is_fit (Nat.le_refl _) rfl (va_cons (VE.br (ve_var (pv 3))) (va_cons (VE.br (ve_var (pv 1))) va_nil))))⟩)))) va_nil)))))) vss_nil) (vss_cons (vs_if (vt_ne cx.hr (VE.br (VO.e (vo_call cx F_kind_of (Nat.le_refl _) rfl (va_cons (VE.br (ve_var (pv 1))) va_nil)))) (vb_var (pv 2))) (vss_one (vs_ret (VE.o ve_bl))) vss_nil) (vss_cons (vs_if (vt_eq cx.hr (vb_var (pv 2)) (VE.br ve_str)) (vss_one (vs_ret (VE.o (VO.e (vo_chain op_le op_le snd_cmpI snd_cmpI (VE.br (VO.e (vo_index cx.hr (vb_var (pv 0)) (VE.br ve_int)))) (vb_var (pv 1)) (VE.br (VO.e (vo_index cx.hr (vb_var (pv 0)) (VE.br ve_int)))) (fun _ _ _ h1 h2 h3 => pe_chain op_le op_le h1 h2 h3)))))) vss_nil) (vss_cons (vs_if (vt_eq cx.hr (vb_var (pv 2)) (VE.br ve_str)) (vss_one (vs_ret (VE.o (VO.e (vo_le (VE.br (VO.e (vo_len rfl M.n_len (va_cons (vb_var (pv 1)) va_nil)))) (VE.br (VO.e (vo_index cx.hr (vb_var (pv 0)) (VE.br ve_int))))))))) vss_nil) (vss_cons (vs_if (vt_eq cx.hr (vb_var (pv 2)) (VE.br ve_str)) (vss_one (vs_ret (VE.o (ve_and (VO.e (vo_chain op_le op_le snd_cmpI snd_cmpI (VE.br (VO.e (vo_index cx.hr (vb_var (pv 0)) (VE.br ve_int)))) (VE.br (VO.e (vo_len rfl M.n_len (va_cons (vb_var (pv 1)) va_nil)))) (VE.br (VO.e (vo_index cx.hr (vb_var (pv 0)) (VE.br ve_int)))) (fun _ _ _ h1 h2 h3 => pe_chain op_le op_le h1 h2 h3))) (ve_one (VO.e (vo_all cx rfl M.n_all (va_cons (VE.br (VO.e (VLc.vo (vlc_it cx (vi_list (ve_var (pv 1))) (blkOk_by (own := [("one", 3)]) (N := N_is_fit) (sc := defScope s_is_fit) (by decide +kernel)) ⟨fun _ _ _ _ _ => pg_name (i := 3) cx.nd rfl (Or.inl rfl), fun _ _ _ _ _ cx2 => vts_nil, fun _ _ _ _ _ cx2 => (VO.e (vo_call cx2 F_is_fit (Nat.le_refl _) rfl (va_cons (VE.br (VO.e (vo_index cx2.hr (vb_var (pv 0)) (VE.br ve_int)))) (va_cons (VE.br (ve_var (pv 3))) va_nil))))⟩)))) va_nil)))))))) vss_nil) (vss_one (vs_ret (VE.o (ve_or (VO.e (vo_ne cx.hr (vb_var (pv 2)) (VE.br ve_str))) (ve_one (VO.e (vo_call cx F_is_table_fit (Nat.le_refl _) rfl (va_cons (VE.br (ve_var (pv 0))) (va_cons (VE.br (ve_var (pv 1))) va_nil))))))))))))))))
theorem no_is_fit (M : MF w K mg) {k : Nat} {S : VSp} (no : ∀ args QV EV, ¬ S args QV EV) : VFn P w K mg base (k + 1) "is_fit" ["shape", "thing"] S := by
  obtain ⟨fd, Fd⟩ := M.d_is_fit
  exact vfn_never Fd M.g_is_fit sc_is_fit (fun _ _ _ _ _ _ us hl => match us, hl with | [_, _], _ => rfl) no

theorem sc_fits_shape : FnScope N_fits_shape ["shape", "thing"] (defScope s_fits_shape) := ⟨rfl, rfl, rfl, by decide +kernel, rfl, by decide +kernel, by decide +kernel⟩
theorem ok_fits_shape (M : MF w K mg) {k : Nat} {S_look_shape S_look_thing S_is_fit : VSp} {S : VSp} (F_look_shape : VFn P w K mg base k "look_shape" ["shape"] S_look_shape) (F_look_thing : VFn P w K mg base k "look_thing" ["thing"] S_look_thing) (F_is_fit : VFn P w K mg base k "is_fit" ["shape", "thing"] S_is_fit)
    (pure : ∀ args QV EV, args.length = 2 → args.all argOk = true → S args QV EV → T_fits_shape S_look_shape S_look_thing S_is_fit (bodyEnds args QV EV) (padE 2 args)) : VFn P w K mg base (k + 1) "fits_shape" ["shape", "thing"] S := by
  obtain ⟨fd, Fd⟩ := M.d_fits_shape
  refine vfn_mk (T_fits_shape S_look_shape S_look_thing S_is_fit) Fd M.g_fits_shape sc_fits_shape (fun _ _ _ _ _ _ us hl => match us, hl with | [_, _], _ => rfl) (fun cdv A outer s H E hr cx => ?_) pure
  exact (vss_cons (vs_expr (VO.e (vo_call cx F_look_shape (Nat.le_refl _) rfl (va_cons (VE.br (ve_var (pv 0))) va_nil)))) (vss_cons (vs_expr (VO.e (vo_call cx F_look_thing (Nat.le_refl _) rfl (va_cons (VE.br (ve_var (pv 1))) va_nil)))) (vss_one (vs_ret (VE.o (VO.e (vo_call cx F_is_fit (Nat.le_refl _) rfl (va_cons (VE.br (ve_var (pv 0))) (va_cons (VE.br (ve_var (pv 1))) va_nil)))))))))
theorem no_fits_shape (M : MF w K mg) {k : Nat} {S : VSp} (no : ∀ args QV EV, ¬ S args QV EV) : VFn P w K mg base (k + 1) "fits_shape" ["shape", "thing"] S := by
  obtain ⟨fd, Fd⟩ := M.d_fits_shape
  exact vfn_never Fd M.g_fits_shape sc_fits_shape (fun _ _ _ _ _ _ us hl => match us, hl with | [_, _], _ => rfl) no

theorem sc_shape_of_rows : FnScope N_shape_of_rows ["rows"] (defScope s_shape_of_rows) := ⟨rfl, rfl, rfl, by decide +kernel, rfl, by decide +kernel, by decide +kernel⟩
theorem ok_shape_of_rows (M : MF w K mg) {k : Nat} {S_shape_of : VSp} {S : VSp} (F_shape_of : VFn P w K mg base k "shape_of" ["things"] S_shape_of)
    (pure : ∀ args QV EV, args.length = 1 → args.all argOk = true → S args QV EV → T_shape_of_rows S_shape_of (bodyEnds args QV EV) (padE 4 args)) : VFn P w K mg base (k + 1) "shape_of_rows" ["rows"] S := by
  obtain ⟨fd, Fd⟩ := M.d_shape_of_rows
  refine vfn_mk (T_shape_of_rows S_shape_of) Fd M.g_shape_of_rows sc_shape_of_rows (fun _ _ _ _ _ _ us hl => match us, hl with | [_], _ => rfl) (fun cdv A outer s H E hr cx => ?_) pure
  exact (vss_cons (vs_set (i := 1) cx.nd rfl (by first | exact Or.inl rfl | exact Or.inr rfl) (vo_lst va_nil)) (vss_cons (vs_for (i := 2) cx rfl (by first | exact Or.inl rfl | exact Or.inr rfl) (vi_list (ve_var (pv 0))) (vss_one (vs_expr (ve_extend (pv 1) (va_cons (VE.br (ve_var (pv 2))) va_nil))))) (vss_cons (VLc.set (j := 3) (VLc.sh (vlc_it cx (vi_list (ve_var (pv 0))) (blkOk_by (own := [("row", 2)]) (N := N_shape_of_rows) (sc := defScope s_shape_of_rows) (by decide +kernel)) ⟨fun _ _ _ _ _ => pg_name (i := 2) cx.nd rfl (Or.inl rfl), fun _ _ _ _ _ cx1 => vts_nil, fun _ _ _ _ _ cx1 => (VO.e (vo_len rfl M.n_len (va_cons (vb_var (pv 2)) va_nil)))⟩)) rfl rfl) (vss_one (vs_ret (VE.o (ve_tup (va_cons (VE.br ve_str) (va_cons (VE.br (VO.e (vo_call cx F_shape_of (Nat.le_refl _) rfl (va_cons (VE.br (ve_var (pv 1))) va_nil)))) (va_cons (VE.br (VO.e (vo_min cx rfl M.n_min (va_cons (vb_var (pv 3)) va_nil)))) (va_cons (VE.br (VO.e (vo_max cx rfl M.n_max (va_cons (vb_var (pv 3)) va_nil)))) va_nil)))))))))))
theorem no_shape_of_rows (M : MF w K mg) {k : Nat} {S : VSp} (no : ∀ args QV EV, ¬ S args QV EV) : VFn P w K mg base (k + 1) "shape_of_rows" ["rows"] S := by
  obtain ⟨fd, Fd⟩ := M.d_shape_of_rows
  exact vfn_never Fd M.g_shape_of_rows sc_shape_of_rows (fun _ _ _ _ _ _ us hl => match us, hl with | [_], _ => rfl) no

theorem sc_shape_of_tables : FnScope N_shape_of_tables ["tables"] (defScope s_shape_of_tables) := ⟨rfl, rfl, rfl, by decide +kernel, rfl, by decide +kernel, by decide +kernel⟩
theorem ok_shape_of_tables (M : MF w K mg) {k : Nat} {S_shape_of : VSp} {S : VSp} (F_shape_of : VFn P w K mg base k "shape_of" ["things"] S_shape_of)
    (pure : ∀ args QV EV, args.length = 1 → args.all argOk = true → S args QV EV → T_shape_of_tables S_shape_of (bodyEnds args QV EV) (padE 6 args)) : VFn P w K mg base (k + 1) "shape_of_tables" ["tables"] S := by
  obtain ⟨fd, Fd⟩ := M.d_shape_of_tables
  refine vfn_mk (T_shape_of_tables S_shape_of) Fd M.g_shape_of_tables sc_shape_of_tables (fun _ _ _ _ _ _ us hl => match us, hl with | [_], _ => rfl) (fun cdv A outer s H E hr cx => ?_) pure
  exact (vss_cons (vs_set (i := 1) cx.nd rfl (by first | exact Or.inl rfl | exact Or.inr rfl) (vo_lst va_nil)) (vss_cons (vs_for (i := 2) cx rfl (by first | exact Or.inl rfl | exact Or.inr rfl) (vi_list (ve_var (pv 0))) (vss_one (vs_expr (ve_extend (pv 1) (va_cons (VE.br (VO.e (vo_listKeys cx rfl M.n_list (vb_var (pv 2))))) va_nil))))) (vss_cons (vs_set (i := 3) cx.nd rfl (by first | exact Or.inl rfl | exact Or.inr rfl) (vo_lst va_nil)) (vss_cons (vs_for (i := 4) cx rfl (by first | exact Or.inl rfl | exact Or.inr rfl) (vi_list (VO.e (vo_ss cx rfl M.n_sorted rfl M.n_set (vb_var (pv 1))))) (vss_cons (VLc.set (j := 5) (VLc.sh (vlc_it cx (vi_list (ve_var (pv 0))) (blkOk_by (own := [("table", 2)]) (N := N_shape_of_tables) (sc := defScope s_shape_of_tables) (by decide +kernel)) ⟨fun _ _ _ _ _ => pg_name (i := 2) cx.nd rfl (Or.inl rfl), fun _ _ _ _ _ cx1 => (vts_one (vt_in cx1.hr (vb_var (pv 4)) (vb_var (pv 2)))), fun _ _ _ _ _ cx1 => (VO.e (vo_index cx1.hr (vb_var (pv 2)) (vb_var (pv 4))))⟩)) rfl rfl) (vss_one (vs_expr (ve_append (pv 3) (va_cons (VE.br (ve_tup (va_cons (VE.br (ve_var (pv 4))) (va_cons (VE.br (VO.e (vo_call cx F_shape_of (Nat.le_refl _) rfl (va_cons (VE.br (ve_var (pv 5))) va_nil)))) (va_cons (VE.br (VO.e (vo_eq cx.hr (VE.br (VO.e (vo_len rfl M.n_len (va_cons (vb_var (pv 5)) va_nil)))) (VE.br (VO.e (vo_len rfl M.n_len (va_cons (vb_var (pv 0)) va_nil))))))) va_nil))))) va_nil)))))) (vss_one (vs_ret (VE.o (ve_tup (va_cons (VE.br ve_str) (va_cons (VE.br (VO.e (vo_tupleOf rfl M.n_tuple (va_cons (vb_var (pv 3)) va_nil)))) (va_cons (VE.br ve_non) va_nil)))))))))))
theorem no_shape_of_tables (M : MF w K mg) {k : Nat} {S : VSp} (no : ∀ args QV EV, ¬ S args QV EV) : VFn P w K mg base (k + 1) "shape_of_tables" ["tables"] S := by
  obtain ⟨fd, Fd⟩ := M.d_shape_of_tables
  exact vfn_never Fd M.g_shape_of_tables sc_shape_of_tables (fun _ _ _ _ _ _ us hl => match us, hl with | [_], _ => rfl) no

theorem sc_shape_of_kind : FnScope N_shape_of_kind ["kind", "things"] (defScope s_shape_of_kind) := ⟨rfl, rfl, rfl, by decide +kernel, rfl, by decide +kernel, by decide +kernel⟩
theorem ok_shape_of_kind (M : MF w K mg) {k : Nat} {S_shape_of_rows S_shape_of_tables : VSp} {S : VSp} (F_shape_of_rows : VFn P w K mg base k "shape_of_rows" ["rows"] S_shape_of_rows) (F_shape_of_tables : VFn P w K mg base k "shape_of_tables" ["tables"] S_shape_of_tables)
    (pure : ∀ args QV EV, args.length = 2 → args.all argOk = true → S args QV EV → T_shape_of_kind S_shape_of_rows S_shape_of_tables (bodyEnds args QV EV) (padE 3 args)) : VFn P w K mg base (k + 1) "shape_of_kind" ["kind", "things"] S := by
  obtain ⟨fd, Fd⟩ := M.d_shape_of_kind
  refine vfn_mk (T_shape_of_kind S_shape_of_rows S_shape_of_tables) Fd M.g_shape_of_kind sc_shape_of_kind (fun _ _ _ _ _ _ us hl => match us, hl with | [_, _], _ => rfl) (fun cdv A outer s H E hr cx => ?_) pure
  exact (vss_cons (vs_if (vt_eq cx.hr (vb_var (pv 0)) (VE.br ve_str)) (vss_one (vs_ret (VE.o (ve_tup (va_cons (VE.br ve_str) (va_cons (VE.br (VO.e (vo_min cx rfl M.n_min (va_cons (vb_var (pv 1)) va_nil)))) (va_cons (VE.br (VO.e (vo_max cx rfl M.n_max (va_cons (vb_var (pv 1)) va_nil)))) va_nil))))))) vss_nil) (vss_cons (vs_if (vt_eq cx.hr (vb_var (pv 0)) (VE.br ve_str)) (vss_one (vs_ret (VE.o (ve_tup (va_cons (VE.br ve_str) (va_cons (VE.br (VO.e (vo_max cx rfl M.n_max (va_cons (VE.br (VO.e (VLc.vo (vlc_it cx (vi_list (ve_var (pv 1))) (blkOk_by (own := [("word", 2)]) (N := N_shape_of_kind) (sc := defScope s_shape_of_kind) (by decide +kernel)) ⟨fun _ _ _ _ _ => pg_name (i := 2) cx.nd rfl (Or.inl rfl), fun _ _ _ _ _ cx1 => vts_nil, fun _ _ _ _ _ cx1 => (VO.e (vo_len rfl M.n_len (va_cons (vb_var (pv 2)) va_nil)))⟩)))) va_nil)))) va_nil)))))) vss_nil) (vss_cons (vs_if (vt_eq cx.hr (vb_var (pv 0)) (VE.br ve_str)) (vss_one (vs_ret (VE.o (VO.e (vo_call cx F_shape_of_rows (Nat.le_refl _) rfl (va_cons (VE.br (ve_var (pv 1))) va_nil)))))) vss_nil) (vss_one (vs_ret (VE.o (VO.e (vo_if (vt_eq cx.hr (vb_var (pv 0)) (VE.br ve_str)) (vo_call cx F_shape_of_tables (Nat.le_refl _) rfl (va_cons (VE.br (ve_var (pv 1))) va_nil)) (VE.o (ve_tup (va_cons (VE.br (ve_var (pv 0))) va_nil)))))))))))
theorem no_shape_of_kind (M : MF w K mg) {k : Nat} {S : VSp} (no : ∀ args QV EV, ¬ S args QV EV) : VFn P w K mg base (k + 1) "shape_of_kind" ["kind", "things"] S := by
  obtain ⟨fd, Fd⟩ := M.d_shape_of_kind
  exact vfn_never Fd M.g_shape_of_kind sc_shape_of_kind (fun _ _ _ _ _ _ us hl => match us, hl with | [_, _], _ => rfl) no

theorem sc_shape_of : FnScope N_shape_of ["things"] (defScope s_shape_of) := ⟨rfl, rfl, rfl, by decide +kernel, rfl, by decide +kernel, by decide +kernel⟩
theorem ok_shape_of (M : MF w K mg) {k : Nat} {S_kind_of S_shape_of_kind : VSp} {S : VSp} (F_kind_of : VFn P w K mg base k "kind_of" ["thing"] S_kind_of) (F_shape_of_kind : VFn P w K mg base k "shape_of_kind" ["kind", "things"] S_shape_of_kind)
    (pure : ∀ args QV EV, args.length = 1 → args.all argOk = true → S args QV EV → T_shape_of S_kind_of S_shape_of_kind (bodyEnds args QV EV) (padE 5 args)) : VFn P w K mg base (k + 1) "shape_of" ["things"] S := by
  obtain ⟨fd, Fd⟩ := M.d_shape_of
  refine vfn_mk (T_shape_of S_kind_of S_shape_of_kind) Fd M.g_shape_of sc_shape_of (fun _ _ _ _ _ _ us hl => match us, hl with | [_], _ => rfl) (fun cdv A outer s H E hr cx => ?_) pure
  exact (vss_cons (vs_set (i := 1) cx.nd rfl (by first | exact Or.inl rfl | exact Or.inr rfl) (vo_lst va_nil)) (vss_cons (vs_for (i := 2) cx rfl (by first | exact Or.inl rfl | exact Or.inr rfl) (vi_list (ve_glst M.l_KINDS rfl)) (vss_cons (VLc.set (j := 3) (VLc.sh (vlc_it cx (vi_list (ve_var (pv 0))) (blkOk_by (own := [("thing", 4)]) (N := N_shape_of) (sc := defScope s_shape_of) (by decide +kernel)) ⟨fun _ _ _ _ _ => pg_name (i := 4) cx.nd rfl (Or.inl rfl), fun _ _ _ _ _ cx1 => (vts_one (vt_eq cx1.hr (VE.br (VO.e (vo_call cx1 F_kind_of (Nat.le_refl _) rfl (va_cons (VE.br (ve_var (pv 4))) va_nil)))) (vb_var (pv 2)))), fun _ _ _ _ _ cx1 => (ve_var (pv 4))⟩)) rfl rfl) (vss_one (vs_if (vt_truth (vb_var (pv 3))) (vss_one (vs_expr (ve_append (pv 1) (va_cons (VE.br (VO.e (vo_call cx F_shape_of_kind (Nat.le_refl _) rfl (va_cons (VE.br (ve_var (pv 2))) (va_cons (VE.br (ve_var (pv 3))) va_nil))))) va_nil)))) vss_nil)))) (vss_one (vs_ret (VE.o (VO.e (vo_if (vt_eq cx.hr (VE.br (VO.e (vo_len rfl M.n_len (va_cons (vb_var (pv 1)) va_nil)))) (VE.br ve_int)) (vo_index cx.hr (vb_var (pv 1)) (VE.br ve_int)) (VE.o (ve_tup (va_cons (VE.br ve_str) (va_cons (VE.br (VO.e (vo_tupleOf rfl M.n_tuple (va_cons (vb_var (pv 1)) va_nil)))) va_nil)))))))))))
theorem no_shape_of (M : MF w K mg) {k : Nat} {S : VSp} (no : ∀ args QV EV, ¬ S args QV EV) : VFn P w K mg base (k + 1) "shape_of" ["things"] S := by
  obtain ⟨fd, Fd⟩ := M.d_shape_of
  exact vfn_never Fd M.g_shape_of sc_shape_of (fun _ _ _ _ _ _ us hl => match us, hl with | [_], _ => rfl) no

theorem sc_least_shape : FnScope N_least_shape ["things"] (defScope s_least_shape) := ⟨rfl, rfl, rfl, by decide +kernel, rfl, by decide +kernel, by decide +kernel⟩
theorem ok_least_shape (M : MF w K mg) {k : Nat} {S_look_thing S_shape_of : VSp} {S : VSp} (F_look_thing : VFn P w K mg base k "look_thing" ["thing"] S_look_thing) (F_shape_of : VFn P w K mg base k "shape_of" ["things"] S_shape_of)
    (pure : ∀ args QV EV, args.length = 1 → args.all argOk = true → S args QV EV → T_least_shape S_look_thing S_shape_of (bodyEnds args QV EV) (padE 2 args)) : VFn P w K mg base (k + 1) "least_shape" ["things"] S := by
  obtain ⟨fd, Fd⟩ := M.d_least_shape
  refine vfn_mk (T_least_shape S_look_thing S_shape_of) Fd M.g_least_shape sc_least_shape (fun _ _ _ _ _ _ us hl => match us, hl with | [_], _ => rfl) (fun cdv A outer s H E hr cx => ?_) pure
  exact (vss_cons (vs_for (i := 1) cx rfl (by first | exact Or.inl rfl | exact Or.inr rfl) (vi_list (ve_var (pv 0))) (vss_one (vs_expr (VO.e (vo_call cx F_look_thing (Nat.le_refl _) rfl (va_cons (VE.br (ve_var (pv 1))) va_nil)))))) (vss_one (vs_ret (VE.o (VO.e (vo_call cx F_shape_of (Nat.le_refl _) rfl (va_cons (VE.br (ve_var (pv 0))) va_nil)))))))
theorem no_least_shape (M : MF w K mg) {k : Nat} {S : VSp} (no : ∀ args QV EV, ¬ S args QV EV) : VFn P w K mg base (k + 1) "least_shape" ["things"] S := by
  obtain ⟨fd, Fd⟩ := M.d_least_shape
  exact vfn_never Fd M.g_least_shape sc_least_shape (fun _ _ _ _ _ _ us hl => match us, hl with | [_], _ => rfl) no

theorem sc__law_cell : FnScope N__law_cell ["_law_script", "_law_k"] (defScope s__law_cell) := ⟨rfl, rfl, rfl, by decide +kernel, rfl, by decide +kernel, by decide +kernel⟩
theorem ok__law_cell (M : MF w K mg) {k : Nat} {S : VSp} 
    (pure : ∀ args QV EV, args.length = 2 → args.all argOk = true → S args QV EV → T__law_cell  (bodyEnds args QV EV) (padE 2 args)) : VFn P w K mg base (k + 1) "_law_cell" ["_law_script", "_law_k"] S := by
  obtain ⟨fd, Fd⟩ := M.d__law_cell
  refine vfn_mk (T__law_cell ) Fd M.g__law_cell sc__law_cell (fun _ _ _ _ _ _ us hl => match us, hl with | [_, _], _ => rfl) (fun cdv A outer s H E hr cx => ?_) pure
  exact (vss_cons (vs_if (vt_truth (vb_var (pv 0))) (vss_one (vs_ret (VE.o (VO.e (vo_index cx.hr (vb_var (pv 0)) (VE.br (VO.e (vo_mod (vb_var (pv 1)) (VE.br (VO.e (vo_len rfl M.n_len (va_cons (vb_var (pv 0)) va_nil)))))))))))) vss_nil) (vss_one (vs_ret (VE.o ve_int))))
theorem no__law_cell (M : MF w K mg) {k : Nat} {S : VSp} (no : ∀ args QV EV, ¬ S args QV EV) : VFn P w K mg base (k + 1) "_law_cell" ["_law_script", "_law_k"] S := by
  obtain ⟨fd, Fd⟩ := M.d__law_cell
  exact vfn_never Fd M.g__law_cell sc__law_cell (fun _ _ _ _ _ _ us hl => match us, hl with | [_, _], _ => rfl) no

theorem sc__law_mix : FnScope N__law_mix ["_law_script", "_law_k"] (defScope s__law_mix) := ⟨rfl, rfl, rfl, by decide +kernel, rfl, by decide +kernel, by decide +kernel⟩
theorem ok__law_mix (M : MF w K mg) {k : Nat} {S__law_cell : VSp} {S : VSp} (F__law_cell : VFn P w K mg base k "_law_cell" ["_law_script", "_law_k"] S__law_cell)
    (pure : ∀ args QV EV, args.length = 2 → args.all argOk = true → S args QV EV → T__law_mix S__law_cell (bodyEnds args QV EV) (padE 3 args)) : VFn P w K mg base (k + 1) "_law_mix" ["_law_script", "_law_k"] S := by
  obtain ⟨fd, Fd⟩ := M.d__law_mix
  refine vfn_mk (T__law_mix S__law_cell) Fd M.g__law_mix sc__law_mix (fun _ _ _ _ _ _ us hl => match us, hl with | [_, _], _ => rfl) (fun cdv A outer s H E hr cx => ?_) pure
  exact (vss_cons (vs_set (i := 2) cx.nd rfl (by first | exact Or.inl rfl | exact Or.inr rfl) (VE.o (VO.e (vo_mod (VE.br (VO.e (vo_add (VE.br (VO.e (vo_call cx F__law_cell (Nat.le_refl _) rfl (va_cons (VE.br (ve_var (pv 0))) (va_cons (VE.br (ve_var (pv 1))) va_nil))))) (VE.br (VO.e (vo_mul (VE.br ve_int) (VE.br (VO.e (vo_add (vb_var (pv 1)) (VE.br ve_int)))))))))) (VE.br ve_int))))) (vss_cons (vs_set (i := 2) cx.nd rfl (by first | exact Or.inl rfl | exact Or.inr rfl) (VE.o (VO.e (vo_mod (VE.br (VO.e (vo_mul (vb_var (pv 2)) (VE.br ve_int)))) (VE.br ve_int))))) (vss_one (vs_ret (VE.o (VO.e (vo_mod (VE.br (VO.e (vo_add (VE.br (VO.e (vo_mul (VE.br (VO.e (vo_div (vb_var (pv 2)) (VE.br ve_int)))) (VE.br ve_int)))) (vb_var (pv 2))))) (VE.br ve_int))))))))
theorem no__law_mix (M : MF w K mg) {k : Nat} {S : VSp} (no : ∀ args QV EV, ¬ S args QV EV) : VFn P w K mg base (k + 1) "_law_mix" ["_law_script", "_law_k"] S := by
  obtain ⟨fd, Fd⟩ := M.d__law_mix
  exact vfn_never Fd M.g__law_mix sc__law_mix (fun _ _ _ _ _ _ us hl => match us, hl with | [_, _], _ => rfl) no

theorem sc__law_draw : FnScope N__law_draw ["_law_script", "_law_town", "_law_many"] (defScope s__law_draw) := ⟨rfl, rfl, rfl, by decide +kernel, rfl, by decide +kernel, by decide +kernel⟩
theorem ok__law_draw (M : MF w K mg) {k : Nat} {S__law_mix : VSp} {S : VSp} (F__law_mix : VFn P w K mg base k "_law_mix" ["_law_script", "_law_k"] S__law_mix)
    (pure : ∀ args QV EV, args.length = 3 → args.all argOk = true → S args QV EV → T__law_draw S__law_mix (bodyEnds args QV EV) (padE 3 args)) : VFn P w K mg base (k + 1) "_law_draw" ["_law_script", "_law_town", "_law_many"] S := by
  obtain ⟨fd, Fd⟩ := M.d__law_draw
  refine vfn_mk (T__law_draw S__law_mix) Fd M.g__law_draw sc__law_draw (fun _ _ _ _ _ _ us hl => match us, hl with | [_, _, _], _ => rfl) (fun cdv A outer s H E hr cx => ?_) pure
  exact (vss_cons (vs_expr (ve_append (pv 1) (va_cons (VE.br ve_int) va_nil))) (vss_one (vs_ret (VE.o (VO.e (vo_mod (VE.br (VO.e (vo_div (VE.br (VO.e (vo_call cx F__law_mix (Nat.le_refl _) rfl (va_cons (VE.br (ve_var (pv 0))) (va_cons (VE.br (VO.e (vo_len rfl M.n_len (va_cons (vb_var (pv 1)) va_nil)))) va_nil))))) (VE.br ve_int)))) (vb_var (pv 2))))))))
theorem no__law_draw (M : MF w K mg) {k : Nat} {S : VSp} (no : ∀ args QV EV, ¬ S args QV EV) : VFn P w K mg base (k + 1) "_law_draw" ["_law_script", "_law_town", "_law_many"] S := by
  obtain ⟨fd, Fd⟩ := M.d__law_draw
  exact vfn_never Fd M.g__law_draw sc__law_draw (fun _ _ _ _ _ _ us hl => match us, hl with | [_, _, _], _ => rfl) no

theorem sc__law_pick : FnScope N__law_pick ["_law_script", "_law_town", "_law_some"] (defScope s__law_pick) := ⟨rfl, rfl, rfl, by decide +kernel, rfl, by decide +kernel, by decide +kernel⟩
theorem ok__law_pick (M : MF w K mg) {k : Nat} {S__law_draw : VSp} {S : VSp} (F__law_draw : VFn P w K mg base k "_law_draw" ["_law_script", "_law_town", "_law_many"] S__law_draw)
    (pure : ∀ args QV EV, args.length = 3 → args.all argOk = true → S args QV EV → T__law_pick S__law_draw (bodyEnds args QV EV) (padE 3 args)) : VFn P w K mg base (k + 1) "_law_pick" ["_law_script", "_law_town", "_law_some"] S := by
  obtain ⟨fd, Fd⟩ := M.d__law_pick
  refine vfn_mk (T__law_pick S__law_draw) Fd M.g__law_pick sc__law_pick (fun _ _ _ _ _ _ us hl => match us, hl with | [_, _, _], _ => rfl) (fun cdv A outer s H E hr cx => ?_) pure
  exact (vss_one (vs_ret (VE.o (VO.e (vo_index cx.hr (vb_var (pv 2)) (VE.br (VO.e (vo_call cx F__law_draw (Nat.le_refl _) rfl (va_cons (VE.br (ve_var (pv 0))) (va_cons (vb_var (pv 1)) (va_cons (VE.br (VO.e (vo_len rfl M.n_len (va_cons (vb_var (pv 2)) va_nil)))) va_nil)))))))))))
theorem no__law_pick (M : MF w K mg) {k : Nat} {S : VSp} (no : ∀ args QV EV, ¬ S args QV EV) : VFn P w K mg base (k + 1) "_law_pick" ["_law_script", "_law_town", "_law_some"] S := by
  obtain ⟨fd, Fd⟩ := M.d__law_pick
  exact vfn_never Fd M.g__law_pick sc__law_pick (fun _ _ _ _ _ _ us hl => match us, hl with | [_, _, _], _ => rfl) no

theorem sc__law_refusal : FnScope N__law_refusal ["_law_held"] (defScope s__law_refusal) := ⟨rfl, rfl, rfl, by decide +kernel, rfl, by decide +kernel, by decide +kernel⟩
theorem ok__law_refusal (M : MF w K mg) {k : Nat} {S : VSp} 
    (pure : ∀ args QV EV, args.length = 1 → args.all argOk = true → S args QV EV → T__law_refusal  (bodyEnds args QV EV) (padE 2 args)) : VFn P w K mg base (k + 1) "_law_refusal" ["_law_held"] S := by
  obtain ⟨fd, Fd⟩ := M.d__law_refusal
  refine vfn_mk (T__law_refusal ) Fd M.g__law_refusal sc__law_refusal (fun _ _ _ _ _ _ us hl => match us, hl with | [_], _ => rfl) (fun cdv A outer s H E hr cx => ?_) pure
  exact (vss_cons (vs_if (vt_isN (vb_var (pv 0)) (VE.br ve_non)) (vss_one (vs_ret (VE.o (ve_tup (va_cons (VE.br ve_str) va_nil))))) vss_nil) (vss_cons (vs_set (i := 1) cx.nd rfl (by first | exact Or.inl rfl | exact Or.inr rfl) (VE.o (VO.e (vo_lst (va_cons (VE.br (ve_isiC rfl M.n_isinstance (vb_var (pv 0)) M.i_BadThing rfl M.g_BadThing)) (va_cons (VE.br (ve_isiC rfl M.n_isinstance (vb_var (pv 0)) M.i_BadText rfl M.g_BadText)) (va_cons (VE.br (ve_isiC rfl M.n_isinstance (vb_var (pv 0)) M.i_BadWay rfl M.g_BadWay)) va_nil))))))) (vss_cons (vs_set (i := 1) cx.nd rfl (by first | exact Or.inl rfl | exact Or.inr rfl) (VE.o (VO.e (vo_add (vb_var (pv 1)) (VE.br (VO.e (vo_lst (va_cons (VE.br (ve_isiC rfl M.n_isinstance (vb_var (pv 0)) M.i_NoWay rfl M.g_NoWay)) (va_cons (VE.br (ve_isiC rfl M.n_isinstance (vb_var (pv 0)) M.i_NoGo rfl M.g_NoGo)) (va_cons (VE.br (ve_isiC rfl M.n_isinstance (vb_var (pv 0)) M.i_Nothing rfl M.g_Nothing)) va_nil)))))))))) (vss_cons (vs_if (VW.t (vw_or (vt_ne cx.hr (VE.br (VO.e (vo_count (vb_var (pv 1)) (va_cons (VE.br ve_bl) va_nil)))) (VE.br ve_int)) (vw_or1 (vt_not (vt_truth (VE.br (ve_isiV rfl M.n_isinstance (vb_var (pv 0)) M.i_ValueError rfl M.n_ValueError))))))) (vss_one (vs_ret (VE.o (ve_tup (va_cons (VE.br ve_str) va_nil))))) vss_nil) (vss_one (vs_ret (VE.o (ve_tup (va_cons (VE.br ve_str) (va_cons (VE.br (VO.e (vo_index cx.hr (VE.br (VO.e (vo_lst (va_cons (VE.br ve_str) (va_cons (VE.br ve_str) (va_cons (VE.br ve_str) (va_cons (VE.br ve_str) (va_cons (VE.br ve_str) (va_cons (VE.br ve_str) va_nil))))))))) (VE.br (VO.e (vo_indexOf (vb_var (pv 1)) (va_cons (VE.br ve_bl) va_nil))))))) va_nil))))))))))
theorem no__law_refusal (M : MF w K mg) {k : Nat} {S : VSp} (no : ∀ args QV EV, ¬ S args QV EV) : VFn P w K mg base (k + 1) "_law_refusal" ["_law_held"] S := by
  obtain ⟨fd, Fd⟩ := M.d__law_refusal
  exact vfn_never Fd M.g__law_refusal sc__law_refusal (fun _ _ _ _ _ _ us hl => match us, hl with | [_], _ => rfl) no

theorem sc__law_kind : FnScope N__law_kind ["_law_thing"] (defScope s__law_kind) := ⟨rfl, rfl, rfl, by decide +kernel, rfl, by decide +kernel, by decide +kernel⟩
theorem ok__law_kind (M : MF w K mg) {k : Nat} {S : VSp} 
    (pure : ∀ args QV EV, args.length = 1 → args.all argOk = true → S args QV EV → T__law_kind  (bodyEnds args QV EV) (padE 1 args)) : VFn P w K mg base (k + 1) "_law_kind" ["_law_thing"] S := by
  obtain ⟨fd, Fd⟩ := M.d__law_kind
  refine vfn_mk (T__law_kind ) Fd M.g__law_kind sc__law_kind (fun _ _ _ _ _ _ us hl => match us, hl with | [_], _ => rfl) (fun cdv A outer s H E hr cx => ?_) pure
  exact (vss_cons (vs_if (VW.t (vw_or (vt_isN (vb_var (pv 0)) (VE.br ve_non)) (vw_or1 (vt_truth (VE.br (ve_isiT .bool rfl M.n_isinstance (vb_var (pv 0)) rfl M.n_bool)))))) (vss_one (vs_ret (VE.o (VO.e (vo_if (vt_isN (vb_var (pv 0)) (VE.br ve_non)) (VE.o ve_int) (VE.o ve_int)))))) vss_nil) (vss_cons (vs_if (vt_truth (VE.br (ve_isiT .int rfl M.n_isinstance (vb_var (pv 0)) rfl M.n_int))) (vss_one (vs_ret (VE.o ve_int))) vss_nil) (vss_cons (vs_if (vt_truth (VE.br (ve_isiT .str rfl M.n_isinstance (vb_var (pv 0)) rfl M.n_str))) (vss_one (vs_ret (VE.o ve_int))) vss_nil) (vss_one (vs_ret (VE.o (VO.e (vo_if (vt_truth (VE.br (ve_isiT .list rfl M.n_isinstance (vb_var (pv 0)) rfl M.n_list))) (VE.o ve_int) (vo_if (vt_truth (VE.br (ve_isiT .dict rfl M.n_isinstance (vb_var (pv 0)) rfl M.n_dict))) (VE.o ve_int) (VE.o ve_int))))))))))
theorem no__law_kind (M : MF w K mg) {k : Nat} {S : VSp} (no : ∀ args QV EV, ¬ S args QV EV) : VFn P w K mg base (k + 1) "_law_kind" ["_law_thing"] S := by
  obtain ⟨fd, Fd⟩ := M.d__law_kind
  exact vfn_never Fd M.g__law_kind sc__law_kind (fun _ _ _ _ _ _ us hl => match us, hl with | [_], _ => rfl) no

theorem sc__law_few : FnScope N__law_few ["_law_script", "_law_town", "_law_deep"] (defScope s__law_few) := ⟨rfl, rfl, rfl, by decide +kernel, rfl, by decide +kernel, by decide +kernel⟩
theorem ok__law_few (M : MF w K mg) {k : Nat} {S__law_draw S__law_pick S__law_few : VSp} {S : VSp} (F__law_draw : VFn P w K mg base k "_law_draw" ["_law_script", "_law_town", "_law_many"] S__law_draw) (F__law_pick : VFn P w K mg base k "_law_pick" ["_law_script", "_law_town", "_law_some"] S__law_pick) (F__law_few : VFn P w K mg base k "_law_few" ["_law_script", "_law_town", "_law_deep"] S__law_few)
    (pure : ∀ args QV EV, args.length = 3 → args.all argOk = true → S args QV EV → T__law_few S__law_draw S__law_pick S__law_few (bodyEnds args QV EV) (padE 8 args)) : VFn P w K mg base (k + 1) "_law_few" ["_law_script", "_law_town", "_law_deep"] S := by
  obtain ⟨fd, Fd⟩ := M.d__law_few
  refine vfn_mk (T__law_few S__law_draw S__law_pick S__law_few) Fd M.g__law_few sc__law_few (fun _ _ _ _ _ _ us hl => match us, hl with | [_, _, _], _ => rfl) (fun cdv A outer s H E hr cx => ?_) pure
  exact (vss_cons (vs_set (i := 3) cx.nd rfl (by first | exact Or.inl rfl | exact Or.inr rfl) (VE.o (VO.e (vo_if (vt_gt (vb_var (pv 2)) (VE.br ve_int)) (vo_call cx F__law_draw (Nat.le_refl _) rfl (va_cons (VE.br (ve_var (pv 0))) (va_cons (vb_var (pv 1)) (va_cons (VE.br ve_int) va_nil)))) (vo_call cx F__law_draw (Nat.le_refl _) rfl (va_cons (VE.br (ve_var (pv 0))) (va_cons (vb_var (pv 1)) (va_cons (VE.br ve_int) va_nil)))))))) (vss_cons (vs_if (vt_lt (vb_var (pv 3)) (VE.br ve_int)) (vss_cons (vs_set (i := 6) cx.nd rfl (by first | exact Or.inl rfl | exact Or.inr rfl) (VE.o (VO.e (vo_lst (va_cons (VE.br ve_non) (va_cons (VE.br ve_bl) (va_cons (VE.br ve_bl) (va_cons (VE.br ve_int) (va_cons (VE.br ve_int) (va_cons (VE.br (VO.e (vo_neg (VE.br ve_int)))) (va_cons (VE.br (VO.e (vo_call cx F__law_draw (Nat.le_refl _) rfl (va_cons (VE.br (ve_var (pv 0))) (va_cons (vb_var (pv 1)) (va_cons (VE.br ve_int) va_nil)))))) (va_cons (VE.br ve_str) (va_cons (VE.br ve_str) (va_cons (VE.br ve_str) va_nil)))))))))))))) (vss_one (vs_ret (VE.o (VO.e (vo_call cx F__law_pick (Nat.le_refl _) rfl (va_cons (VE.br (ve_var (pv 0))) (va_cons (vb_var (pv 1)) (va_cons (VE.br (ve_var (pv 6))) va_nil))))))))) vss_nil) (vss_cons (vs_if (vt_lt (vb_var (pv 3)) (VE.br ve_int)) (vss_one (vs_ret (VE.o (VO.e (VLc.vo (vlc_it cx (vi_range rfl M.n_range (va_cons (VE.br (VO.e (vo_call cx F__law_draw (Nat.le_refl _) rfl (va_cons (VE.br (ve_var (pv 0))) (va_cons (vb_var (pv 1)) (va_cons (VE.br ve_int) va_nil)))))) va_nil)) (blkOk_by (own := [("_law_k", 7)]) (N := N__law_few) (sc := defScope s__law_few) (by decide +kernel)) ⟨fun _ _ _ _ _ => pg_name (i := 7) cx.nd rfl (Or.inl rfl), fun _ _ _ _ _ cx1 => vts_nil, fun _ _ _ _ _ cx1 => (VO.e (vo_call cx1 F__law_few (Nat.le_refl _) rfl (va_cons (VE.br (ve_var (pv 0))) (va_cons (vb_var (pv 1)) (va_cons (VE.br (VO.e (vo_sub (vb_var (pv 2)) (VE.br ve_int)))) va_nil)))))⟩)))))) vss_nil) (vss_cons (vs_set (i := 4) cx.nd rfl (by first | exact Or.inl rfl | exact Or.inr rfl) vo_dct0) (vss_cons (vs_for (i := 5) cx rfl (by first | exact Or.inl rfl | exact Or.inr rfl) (vi_list (VO.e (vo_lst (va_cons (VE.br ve_str) (va_cons (VE.br ve_str) (va_cons (VE.br ve_str) va_nil)))))) (vss_one (vs_if (vt_gt (VE.br (VO.e (vo_call cx F__law_draw (Nat.le_refl _) rfl (va_cons (VE.br (ve_var (pv 0))) (va_cons (vb_var (pv 1)) (va_cons (VE.br ve_int) va_nil)))))) (VE.br ve_int)) (vss_one (vs_sto cx (pv 4) (VO.e (vo_call cx F__law_few (Nat.le_refl _) rfl (va_cons (VE.br (ve_var (pv 0))) (va_cons (vb_var (pv 1)) (va_cons (VE.br (VO.e (vo_sub (vb_var (pv 2)) (VE.br ve_int)))) va_nil))))) (vb_var (pv 5)))) vss_nil))) (vss_one (vs_ret (VE.o (ve_var (pv 4))))))))))
theorem no__law_few (M : MF w K mg) {k : Nat} {S : VSp} (no : ∀ args QV EV, ¬ S args QV EV) : VFn P w K mg base (k + 1) "_law_few" ["_law_script", "_law_town", "_law_deep"] S := by
  obtain ⟨fd, Fd⟩ := M.d__law_few
  exact vfn_never Fd M.g__law_few sc__law_few (fun _ _ _ _ _ _ us hl => match us, hl with | [_, _, _], _ => rfl) no

theorem sc__law_fits : FnScope N__law_fits ["_law_shape", "_law_thing"] (defScope s__law_fits) := ⟨rfl, rfl, rfl, by decide +kernel, rfl, by decide +kernel, by decide +kernel⟩
theorem ok__law_fits (M : MF w K mg) {k : Nat} {S__law_fits S__law_kind : VSp} {S : VSp} (F__law_fits : VFn P w K mg base k "_law_fits" ["_law_shape", "_law_thing"] S__law_fits) (F__law_kind : VFn P w K mg base k "_law_kind" ["_law_thing"] S__law_kind)
    (pure : ∀ args QV EV, args.length = 2 → args.all argOk = true → S args QV EV → T__law_fits S__law_fits S__law_kind (bodyEnds args QV EV) (padE 8 args)) : VFn P w K mg base (k + 1) "_law_fits" ["_law_shape", "_law_thing"] S := by
  obtain ⟨fd, Fd⟩ := M.d__law_fits
  refine vfn_mk (T__law_fits S__law_fits S__law_kind) Fd M.g__law_fits sc__law_fits (fun _ _ _ _ _ _ us hl => match us, hl with | [_, _], _ => rfl) (fun cdv A outer s H E hr cx => ?_) pure
  exact (vss_cons (vs_set (i := 2) cx.nd rfl (by first | exact Or.inl rfl | exact Or.inr rfl) (VE.o (VO.e (vo_index cx.hr (vb_var (pv 0)) (VE.br ve_int))))) (vss_cons (vs_if (vt_eq cx.hr (vb_var (pv 2)) (VE.br ve_str)) (vss_one (vs_ret (VE.o (VO.e (vo_any cx rfl M.n_any (va_cons (VE.br (VO.e (VLc.vo (vlc_it cx (vi_tup (VO.e (vo_index cx.hr (vb_var (pv 0)) (VE.br ve_int)))) (blkOk_by (own := [("_law_one", 7)]) (N := N__law_fits) (sc := defScope s__law_fits) (by decide +kernel)) ⟨fun _ _ _ _ _ => pg_name (i := 7) cx.nd rfl (Or.inl rfl), fun _ _ _ _ _ cx1 => vts_nil, fun _ _ _ _ _ cx1 => (VO.e (vo_call cx1 F__law_fits (Nat.le_refl _) rfl (va_cons (VE.br (ve_var (pv 7))) (va_cons (VE.br (ve_var (pv 1))) va_nil))))⟩)))) va_nil)))))) vss_nil) (vss_cons (vs_if (vt_eq cx.hr (vb_var (pv 2)) (VE.br ve_str)) (vss_one (vs_ret (VE.o ve_bl))) vss_nil) (vss_cons (vs_if (vt_ne cx.hr (VE.br (VO.e (vo_index cx.hr (VE.br (VO.e (vo_lst (va_cons (VE.br ve_str) (va_cons (VE.br ve_str) (va_cons (VE.br ve_str) (va_cons (VE.br ve_str) (va_cons (VE.br ve_str) (va_cons (VE.br ve_str) va_nil))))))))) (VE.br (VO.e (vo_call cx F__law_kind (Nat.le_refl _) rfl (va_cons (VE.br (ve_var (pv 1))) va_nil))))))) (vb_var (pv 2))) (vss_one (vs_ret (VE.o ve_bl))) vss_nil) (vss_cons (vs_if (vt_eq cx.hr (vb_var (pv 2)) (VE.br ve_str)) (vss_one (vs_ret (VE.o (VO.e (vo_chain op_le op_le snd_cmpI snd_cmpI (VE.br (VO.e (vo_index cx.hr (vb_var (pv 0)) (VE.br ve_int)))) (vb_var (pv 1)) (VE.br (VO.e (vo_index cx.hr (vb_var (pv 0)) (VE.br ve_int)))) (fun _ _ _ h1 h2 h3 => pe_chain op_le op_le h1 h2 h3)))))) vss_nil) (vss_cons (vs_if (vt_eq cx.hr (vb_var (pv 2)) (VE.br ve_str)) (vss_one (vs_ret (VE.o (VO.e (vo_le (VE.br (VO.e (vo_len rfl M.n_len (va_cons (vb_var (pv 1)) va_nil)))) (VE.br (VO.e (vo_index cx.hr (vb_var (pv 0)) (VE.br ve_int))))))))) vss_nil) (vss_cons (vs_if (vt_eq cx.hr (vb_var (pv 2)) (VE.br ve_str)) (vss_one (vs_ret (VE.o (ve_and (VO.e (vo_chain op_le op_le snd_cmpI snd_cmpI (VE.br (VO.e (vo_index cx.hr (vb_var (pv 0)) (VE.br ve_int)))) (VE.br (VO.e (vo_len rfl M.n_len (va_cons (vb_var (pv 1)) va_nil)))) (VE.br (VO.e (vo_index cx.hr (vb_var (pv 0)) (VE.br ve_int)))) (fun _ _ _ h1 h2 h3 => pe_chain op_le op_le h1 h2 h3))) (ve_one (VO.e (vo_all cx rfl M.n_all (va_cons (VE.br (VO.e (VLc.vo (vlc_it cx (vi_list (ve_var (pv 1))) (blkOk_by (own := [("_law_one", 7)]) (N := N__law_fits) (sc := defScope s__law_fits) (by decide +kernel)) ⟨fun _ _ _ _ _ => pg_name (i := 7) cx.nd rfl (Or.inl rfl), fun _ _ _ _ _ cx2 => vts_nil, fun _ _ _ _ _ cx2 => (VO.e (vo_call cx2 F__law_fits (Nat.le_refl _) rfl (va_cons (VE.br (VO.e (vo_index cx2.hr (vb_var (pv 0)) (VE.br ve_int)))) (va_cons (VE.br (ve_var (pv 7))) va_nil))))⟩)))) va_nil)))))))) vss_nil) (vss_cons (vs_if (vt_ne cx.hr (vb_var (pv 2)) (VE.br ve_str)) (vss_one (vs_ret (VE.o ve_bl))) vss_nil) (vss_cons (vs_set (i := 3) cx.nd rfl (by first | exact Or.inl rfl | exact Or.inr rfl) vo_dct0) (vss_cons (vs_forG cx (vi_tup (VO.e (vo_index cx.hr (vb_var (pv 0)) (VE.br ve_int)))) (vg_tup cx.calm (vgs_cons (vg_name (i := 4) cx.nd rfl (by first | exact Or.inl rfl | exact Or.inr rfl)) (vgs_cons (vg_name (i := 5) cx.nd rfl (by first | exact Or.inl rfl | exact Or.inr rfl)) (vgs_cons (vg_name (i := 6) cx.nd rfl (by first | exact Or.inl rfl | exact Or.inr rfl)) vgs_nil))) (gsC_len (gsC_len (gsC_len (fun _ _ _ h => gsN_len h) gN_any) gN_any) gN_any)) (vss_cons (vs_sto cx (pv 3) (ve_var (pv 5)) (vb_var (pv 4))) (vss_one (vs_if (VW.t (vw_and (vt_truth (vb_var (pv 6))) (vw_and1 (vt_notIn cx.hr (vb_var (pv 4)) (vb_var (pv 1)))))) (vss_one (vs_ret (VE.o ve_bl))) vss_nil)))) (vss_cons (vs_forK cx (pv 1) (j := 4) rfl (by first | exact Or.inl rfl | exact Or.inr rfl) (vss_one (vs_if (VW.t (vw_or (VW.t (vw_and (vt_notIn (VC.wf cx).hr (vb_var (pv 4)) (vb_var (pv 3))) (vw_and1 (vt_isN (VE.br (VO.e (vo_index (VC.wf cx).hr (vb_var (pv 0)) (VE.br ve_int)))) (VE.br ve_non))))) (vw_or1 (vt_not (vt_truth (VE.br (VO.e (vo_call (VC.wf cx) F__law_fits (Nat.le_refl _) rfl (va_cons (VE.br (ve_dget2 (VC.wf cx) (vb_var (pv 3)) (vb_var (pv 4)) (VO.e (vo_index (VC.wf cx).hr (vb_var (pv 0)) (VE.br ve_int))) ⟨rfl, rfl, rfl, rfl⟩)) (va_cons (VE.br (VO.e (vo_index (VC.wf cx).hr (vb_var (pv 1)) (vb_var (pv 4))))) va_nil)))))))))) (vss_one (vs_ret (VE.o ve_bl))) vss_nil))) (vss_one (vs_ret (VE.o ve_bl))))))))))))))
theorem no__law_fits (M : MF w K mg) {k : Nat} {S : VSp} (no : ∀ args QV EV, ¬ S args QV EV) : VFn P w K mg base (k + 1) "_law_fits" ["_law_shape", "_law_thing"] S := by
  obtain ⟨fd, Fd⟩ := M.d__law_fits
  exact vfn_never Fd M.g__law_fits sc__law_fits (fun _ _ _ _ _ _ us hl => match us, hl with | [_, _], _ => rfl) no

theorem sc__law_least : FnScope N__law_least ["_law_things"] (defScope s__law_least) := ⟨rfl, rfl, rfl, by decide +kernel, rfl, by decide +kernel, by decide +kernel⟩
theorem ok__law_least (M : MF w K mg) {k : Nat} {S__law_kind S__law_least S__law_entries : VSp} {S : VSp} (F__law_kind : VFn P w K mg base k "_law_kind" ["_law_thing"] S__law_kind) (F__law_least : VFn P w K mg base k "_law_least" ["_law_things"] S__law_least) (F__law_entries : VFn P w K mg base k "_law_entries" ["_law_tables"] S__law_entries)
    (pure : ∀ args QV EV, args.length = 1 → args.all argOk = true → S args QV EV → T__law_least S__law_kind S__law_least S__law_entries (bodyEnds args QV EV) (padE 9 args)) : VFn P w K mg base (k + 1) "_law_least" ["_law_things"] S := by
  obtain ⟨fd, Fd⟩ := M.d__law_least
  refine vfn_mk (T__law_least S__law_kind S__law_least S__law_entries) Fd M.g__law_least sc__law_least (fun _ _ _ _ _ _ us hl => match us, hl with | [_], _ => rfl) (fun cdv A outer s H E hr cx => ?_) pure
  exact (vss_cons (vs_set (i := 1) cx.nd rfl (by first | exact Or.inl rfl | exact Or.inr rfl) (vo_lst va_nil)) (vss_cons (vs_for (i := 2) cx rfl (by first | exact Or.inl rfl | exact Or.inr rfl) (vi_range rfl M.n_range (va_cons (VE.br ve_int) va_nil)) (vss_cons (VLc.set (j := 3) (VLc.sh (vlc_it cx (vi_list (ve_var (pv 0))) (blkOk_by (own := [("_law_thing", 4)]) (N := N__law_least) (sc := defScope s__law_least) (by decide +kernel)) ⟨fun _ _ _ _ _ => pg_name (i := 4) cx.nd rfl (Or.inl rfl), fun _ _ _ _ _ cx1 => (vts_one (vt_eq cx1.hr (VE.br (VO.e (vo_call cx1 F__law_kind (Nat.le_refl _) rfl (va_cons (VE.br (ve_var (pv 4))) va_nil)))) (vb_var (pv 2)))), fun _ _ _ _ _ cx1 => (ve_var (pv 4))⟩)) rfl rfl) (vss_cons (vs_if (vt_eq cx.hr (vb_var (pv 3)) (VE.br (VO.e (vo_lst va_nil)))) (vss_one vs_continue) vss_nil) (vss_one (vs_if (vt_lt (vb_var (pv 2)) (VE.br ve_int)) (vss_one (vs_expr (ve_append (pv 1) (va_cons (VE.br (ve_tup (va_cons (VE.br (VO.e (vo_index cx.hr (VE.br (VO.e (vo_lst (va_cons (VE.br ve_str) (va_cons (VE.br ve_str) va_nil))))) (vb_var (pv 2))))) va_nil))) va_nil)))) (vss_one (vs_if (vt_eq cx.hr (vb_var (pv 2)) (VE.br ve_int)) (vss_one (vs_expr (ve_append (pv 1) (va_cons (VE.br (ve_tup (va_cons (VE.br ve_str) (va_cons (VE.br (VO.e (vo_min cx rfl M.n_min (va_cons (vb_var (pv 3)) va_nil)))) (va_cons (VE.br (VO.e (vo_max cx rfl M.n_max (va_cons (vb_var (pv 3)) va_nil)))) va_nil))))) va_nil)))) (vss_one (vs_if (vt_eq cx.hr (vb_var (pv 2)) (VE.br ve_int)) (vss_one (vs_expr (ve_append (pv 1) (va_cons (VE.br (ve_tup (va_cons (VE.br ve_str) (va_cons (VE.br (VO.e (vo_max cx rfl M.n_max (va_cons (VE.br (VO.e (VLc.vo (vlc_it cx (vi_list (ve_var (pv 3))) (blkOk_by (own := [("_law_word", 8)]) (N := N__law_least) (sc := defScope s__law_least) (by decide +kernel)) ⟨fun _ _ _ _ _ => pg_name (i := 8) cx.nd rfl (Or.inl rfl), fun _ _ _ _ _ cx2 => vts_nil, fun _ _ _ _ _ cx2 => (VO.e (vo_len rfl M.n_len (va_cons (vb_var (pv 8)) va_nil)))⟩)))) va_nil)))) va_nil)))) va_nil)))) (vss_one (vs_if (vt_eq cx.hr (vb_var (pv 2)) (VE.br ve_int)) (vss_cons (vs_set (i := 5) cx.nd rfl (by first | exact Or.inl rfl | exact Or.inr rfl) (VE.o (VO.e (vo_lst va_nil)))) (vss_cons (vs_for (i := 6) cx rfl (by first | exact Or.inl rfl | exact Or.inr rfl) (vi_list (ve_var (pv 3))) (vss_one (vs_set (i := 5) cx.nd rfl (by first | exact Or.inl rfl | exact Or.inr rfl) (VE.o (VO.e (vo_add (vb_var (pv 5)) (vb_var (pv 6)))))))) (vss_cons (VLc.set (j := 7) (VLc.sh (vlc_it cx (vi_list (ve_var (pv 3))) (blkOk_by (own := [("_law_row", 6)]) (N := N__law_least) (sc := defScope s__law_least) (by decide +kernel)) ⟨fun _ _ _ _ _ => pg_name (i := 6) cx.nd rfl (Or.inl rfl), fun _ _ _ _ _ cx3 => vts_nil, fun _ _ _ _ _ cx3 => (VO.e (vo_len rfl M.n_len (va_cons (vb_var (pv 6)) va_nil)))⟩)) rfl rfl) (vss_one (vs_expr (ve_append (pv 1) (va_cons (VE.br (ve_tup (va_cons (VE.br ve_str) (va_cons (VE.br (VO.e (vo_call cx F__law_least (Nat.le_refl _) rfl (va_cons (VE.br (ve_var (pv 5))) va_nil)))) (va_cons (VE.br (VO.e (vo_min cx rfl M.n_min (va_cons (vb_var (pv 7)) va_nil)))) (va_cons (VE.br (VO.e (vo_max cx rfl M.n_max (va_cons (vb_var (pv 7)) va_nil)))) va_nil)))))) va_nil))))))) (vss_one (vs_expr (ve_append (pv 1) (va_cons (VE.br (ve_tup (va_cons (VE.br ve_str) (va_cons (VE.br (VO.e (vo_call cx F__law_entries (Nat.le_refl _) rfl (va_cons (VE.br (ve_var (pv 3))) va_nil)))) (va_cons (VE.br ve_non) va_nil))))) va_nil))))))))))))))) (vss_one (vs_ret (VE.o (VO.e (vo_if (vt_eq cx.hr (VE.br (VO.e (vo_len rfl M.n_len (va_cons (vb_var (pv 1)) va_nil)))) (VE.br ve_int)) (vo_index cx.hr (vb_var (pv 1)) (VE.br ve_int)) (VE.o (ve_tup (va_cons (VE.br ve_str) (va_cons (VE.br (VO.e (vo_tupleOf rfl M.n_tuple (va_cons (vb_var (pv 1)) va_nil)))) va_nil)))))))))))
theorem no__law_least (M : MF w K mg) {k : Nat} {S : VSp} (no : ∀ args QV EV, ¬ S args QV EV) : VFn P w K mg base (k + 1) "_law_least" ["_law_things"] S := by
  obtain ⟨fd, Fd⟩ := M.d__law_least
  exact vfn_never Fd M.g__law_least sc__law_least (fun _ _ _ _ _ _ us hl => match us, hl with | [_], _ => rfl) no

theorem sc__law_entries : FnScope N__law_entries ["_law_tables"] (defScope s__law_entries) := ⟨rfl, rfl, rfl, by decide +kernel, rfl, by decide +kernel, by decide +kernel⟩
theorem ok__law_entries (M : MF w K mg) {k : Nat} {S__law_least : VSp} {S : VSp} (F__law_least : VFn P w K mg base k "_law_least" ["_law_things"] S__law_least)
    (pure : ∀ args QV EV, args.length = 1 → args.all argOk = true → S args QV EV → T__law_entries S__law_least (bodyEnds args QV EV) (padE 4 args)) : VFn P w K mg base (k + 1) "_law_entries" ["_law_tables"] S := by
  obtain ⟨fd, Fd⟩ := M.d__law_entries
  refine vfn_mk (T__law_entries S__law_least) Fd M.g__law_entries sc__law_entries (fun _ _ _ _ _ _ us hl => match us, hl with | [_], _ => rfl) (fun cdv A outer s H E hr cx => ?_) pure
  exact (vss_cons (vs_set (i := 1) cx.nd rfl (by first | exact Or.inl rfl | exact Or.inr rfl) vo_dct0) (vss_cons (vs_for (i := 2) cx rfl (by first | exact Or.inl rfl | exact Or.inr rfl) (vi_list (ve_var (pv 0))) (vss_one (vs_forK cx (pv 2) (j := 3) rfl (by first | exact Or.inl rfl | exact Or.inr rfl) (vss_one (vs_sto (VC.wf cx) (pv 1) (VO.e (vo_add (VE.br (ve_dget2 (VC.wf cx) (vb_var (pv 1)) (vb_var (pv 3)) (VO.e (vo_lst va_nil)) ⟨rfl, rfl, rfl, rfl⟩)) (VE.br (VO.e (vo_lst (va_cons (VE.br (VO.e (vo_index (VC.wf cx).hr (vb_var (pv 2)) (vb_var (pv 3))))) va_nil)))))) (vb_var (pv 3))))))) (vss_one (vs_ret (VE.o (VO.e (vo_tupleOf rfl M.n_tuple (va_cons (VE.br (VO.e (VLc.vo (vlc_it cx (vi_list (VO.e (vo_sortKeys cx rfl M.n_sorted (vb_var (pv 1))))) (blkOk_by (own := [("_law_key", 3)]) (N := N__law_entries) (sc := defScope s__law_entries) (by decide +kernel)) ⟨fun _ _ _ _ _ => pg_name (i := 3) cx.nd rfl (Or.inl rfl), fun _ _ _ _ _ cx1 => vts_nil, fun _ _ _ _ _ cx1 => (ve_tup (va_cons (VE.br (ve_var (pv 3))) (va_cons (VE.br (VO.e (vo_call cx1 F__law_least (Nat.le_refl _) rfl (va_cons (VE.br (VO.e (vo_index cx1.hr (vb_var (pv 1)) (vb_var (pv 3))))) va_nil)))) (va_cons (VE.br (VO.e (vo_eq cx1.hr (VE.br (VO.e (vo_len rfl M.n_len (va_cons (VE.br (VO.e (vo_index cx1.hr (vb_var (pv 1)) (vb_var (pv 3))))) va_nil)))) (VE.br (VO.e (vo_len rfl M.n_len (va_cons (vb_var (pv 0)) va_nil))))))) va_nil))))⟩)))) va_nil))))))))
theorem no__law_entries (M : MF w K mg) {k : Nat} {S : VSp} (no : ∀ args QV EV, ¬ S args QV EV) : VFn P w K mg base (k + 1) "_law_entries" ["_law_tables"] S := by
  obtain ⟨fd, Fd⟩ := M.d__law_entries
  exact vfn_never Fd M.g__law_entries sc__law_entries (fun _ _ _ _ _ _ us hl => match us, hl with | [_], _ => rfl) no

theorem sc__law_told : FnScope N__law_told ["_law_things"] (defScope s__law_told) := ⟨rfl, rfl, rfl, by decide +kernel, rfl, by decide +kernel, by decide +kernel⟩
theorem ok__law_told (M : MF w K mg) {k : Nat} {S_least_shape S__law_refusal : VSp} {S : VSp} (F_least_shape : VFn P w K mg base k "least_shape" ["things"] S_least_shape) (F__law_refusal : VFn P w K mg base k "_law_refusal" ["_law_held"] S__law_refusal)
    (pure : ∀ args QV EV, args.length = 1 → args.all argOk = true → S args QV EV → T__law_told S_least_shape S__law_refusal (bodyEnds args QV EV) (padE 4 args)) : VFn P w K mg base (k + 1) "_law_told" ["_law_things"] S := by
  obtain ⟨fd, Fd⟩ := M.d__law_told
  refine vfn_mk (T__law_told S_least_shape S__law_refusal) Fd M.g__law_told sc__law_told (fun _ _ _ _ _ _ us hl => match us, hl with | [_], _ => rfl) (fun cdv A outer s H E hr cx => ?_) pure
  exact (vss_cons (vs_set (i := 1) cx.nd rfl (by first | exact Or.inl rfl | exact Or.inr rfl) (VE.o ve_non)) (vss_cons (vs_set (i := 2) cx.nd rfl (by first | exact Or.inl rfl | exact Or.inr rfl) (VE.o ve_non)) (vss_cons (vs_tryAs (i := 3) cx rfl rfl rfl rfl ⟨rfl, rfl, .inl M.g_NestError⟩ M.m_NestError (fun _ _ _ cx1 => (vss_one (vs_set (i := 2) cx1.nd rfl (by first | exact Or.inl rfl | exact Or.inr rfl) (VE.o (VO.e (vo_call cx1 F_least_shape (Nat.le_refl _) rfl (va_cons (VE.br (ve_var (pv 0))) va_nil))))))) (fun _ _ => (vss_one (vs_set (i := 1) cx.nd rfl (by first | exact Or.inl rfl | exact Or.inr rfl) (VE.o (ve_var (pv 3))))))) (vss_one (vs_ret (VE.o (VO.e (vo_if (vt_isN (vb_var (pv 1)) (VE.br ve_non)) (VE.o (ve_var (pv 2))) (vo_call cx F__law_refusal (Nat.le_refl _) rfl (va_cons (VE.br (ve_var (pv 1))) va_nil))))))))))
theorem no__law_told (M : MF w K mg) {k : Nat} {S : VSp} (no : ∀ args QV EV, ¬ S args QV EV) : VFn P w K mg base (k + 1) "_law_told" ["_law_things"] S := by
  obtain ⟨fd, Fd⟩ := M.d__law_told
  exact vfn_never Fd M.g__law_told sc__law_told (fun _ _ _ _ _ _ us hl => match us, hl with | [_], _ => rfl) no

theorem sc_law : FnScope N_law ["_law_script"] (defScope s_law) := ⟨rfl, rfl, rfl, by decide +kernel, rfl, by decide +kernel, by decide +kernel⟩
theorem fin_law (M : MF w K mg) {k : Nat} {S__law_draw S__law_few S__law_least S__law_told S_fits_shape S__law_fits : VSp} {S : VSp} (F__law_draw : VFn P w K mg base k "_law_draw" ["_law_script", "_law_town", "_law_many"] S__law_draw) (F__law_few : VFn P w K mg base k "_law_few" ["_law_script", "_law_town", "_law_deep"] S__law_few) (F__law_least : VFn P w K mg base k "_law_least" ["_law_things"] S__law_least) (F__law_told : VFn P w K mg base k "_law_told" ["_law_things"] S__law_told) (F_fits_shape : VFn P w K mg base k "fits_shape" ["shape", "thing"] S_fits_shape) (F__law_fits : VFn P w K mg base k "_law_fits" ["_law_shape", "_law_thing"] S__law_fits) {fd : FuncData} (Fd : FunD K "law" "law" (defArgs s_law) (defBody s_law) (defScope s_law) [] [] (He.ga K "law") fd)
    (pure : ∀ args QV EV, args.length = 1 → args.all argOk = true → S args QV EV → T_law S__law_draw S__law_few S__law_least S__law_told S_fits_shape S__law_fits (bodyEnds args QV EV) (padE 8 args)) : FnOk P w K mg base (L2.CX P w) (k + 1) (He.ga K "law") fd ["_law_script"] (toSp K 1 S) := by
  refine fnok_mkW (T_law S__law_draw S__law_few S__law_least S__law_told S_fits_shape S__law_fits) Fd sc_law (fun cdv A outer s H E hr cxw => ?_) pure
  exact (vss_cons (vs_set (i := 1) cxw.toVC.nd rfl (by first | exact Or.inl rfl | exact Or.inr rfl) (vo_lst va_nil)) (vss_cons (VLc.set (j := 2) (VLc.sh (vlc_it cxw.toVC (vi_range rfl M.n_range (va_cons (VE.br (VO.e (vo_call cxw.toVC F__law_draw (Nat.le_refl _) rfl (va_cons (VE.br (ve_var (pv 0))) (va_cons (vb_var (pv 1)) (va_cons (VE.br ve_int) va_nil)))))) va_nil)) (blkOk_by (own := [("_law_k", 6)]) (N := N_law) (sc := defScope s_law) (by decide +kernel)) ⟨fun _ _ _ _ _ => pg_name (i := 6) cxw.toVC.nd rfl (Or.inl rfl), fun _ _ _ _ _ cx1 => vts_nil, fun _ _ _ _ _ cx1 => (VO.e (vo_call cx1 F__law_few (Nat.le_refl _) rfl (va_cons (VE.br (ve_var (pv 0))) (va_cons (vb_var (pv 1)) (va_cons (VE.br ve_int) va_nil)))))⟩)) rfl rfl) (vss_cons (vs_set (i := 3) cxw.toVC.nd rfl (by first | exact Or.inl rfl | exact Or.inr rfl) (VE.o (VO.e (vo_call cxw.toVC F__law_least (Nat.le_refl _) rfl (va_cons (VE.br (ve_var (pv 2))) va_nil))))) (vss_cons (vs_set (i := 4) cxw.toVC.nd rfl (by first | exact Or.inl rfl | exact Or.inr rfl) (VE.o (VO.e (vo_call cxw.toVC F__law_told (Nat.le_refl _) rfl (va_cons (VE.br (ve_var (pv 2))) va_nil))))) (vss_cons (vs_if (VW.t (vw_or (vt_ne cxw.toVC.hr (vb_var (pv 4)) (vb_var (pv 3))) (vw_or1 (vt_not (vt_truth (VE.br (VO.e (vo_all cxw.toVC rfl M.n_all (va_cons (VE.br (VO.e (VLc.vo (vlc_it cxw.toVC (vi_list (ve_var (pv 2))) (blkOk_by (own := [("_law_thing", 7)]) (N := N_law) (sc := defScope s_law) (by decide +kernel)) ⟨fun _ _ _ _ _ => pg_name (i := 7) cxw.toVC.nd rfl (Or.inl rfl), fun _ _ _ _ _ cx2 => vts_nil, fun _ _ _ _ _ cx2 => (VO.e (vo_call cx2 F_fits_shape (Nat.le_refl _) rfl (va_cons (VE.br (ve_var (pv 4))) (va_cons (VE.br (ve_var (pv 7))) va_nil))))⟩)))) va_nil))))))))) (vss_one (vs_ret (VE.o ve_bl))) vss_nil) (vss_cons (vs_if (VW.t (vw_or (vt_ne cxw.toVC.hr (VE.br (VO.e (vo_call cxw.toVC F__law_told (Nat.le_refl _) rfl (va_cons (VE.br (VO.e (vo_rev (vb_var (pv 2))))) va_nil)))) (vb_var (pv 3))) (vw_or1 (vt_ne cxw.toVC.hr (VE.br (VO.e (vo_call cxw.toVC F__law_told (Nat.le_refl _) rfl (va_cons (VE.br (VO.e (vo_add (vb_var (pv 2)) (vb_var (pv 2))))) va_nil)))) (vb_var (pv 3)))))) (vss_one (vs_ret (VE.o ve_bl))) vss_nil) (vss_cons (vs_set (i := 5) cxw.toVC.nd rfl (by first | exact Or.inl rfl | exact Or.inr rfl) (VE.o (VO.e (vo_call cxw.toVC F__law_few (Nat.le_refl _) rfl (va_cons (VE.br (ve_var (pv 0))) (va_cons (vb_var (pv 1)) (va_cons (VE.br ve_int) va_nil))))))) (vss_cons (vs_if (VW.t (vw_or (vt_ne cxw.toVC.hr (VE.br (VO.e (vo_call cxw.toVC F_fits_shape (Nat.le_refl _) rfl (va_cons (VE.br (ve_var (pv 4))) (va_cons (VE.br (ve_var (pv 5))) va_nil))))) (VE.br (VO.e (vo_call cxw.toVC F__law_fits (Nat.le_refl _) rfl (va_cons (VE.br (ve_var (pv 3))) (va_cons (VE.br (ve_var (pv 5))) va_nil)))))) (vw_or1 (vt_ne cxw.toVC.hr (VE.br (VO.e (vo_call cxw.toVC F__law_told (Nat.le_refl _) rfl (va_cons (VE.br (VO.e (vo_add (vb_var (pv 2)) (VE.br (VO.e (vo_lst (va_cons (VE.br (ve_var (pv 5))) va_nil))))))) va_nil)))) (VE.br (VO.e (vo_call cxw.toVC F__law_least (Nat.le_refl _) rfl (va_cons (VE.br (VO.e (vo_add (vb_var (pv 2)) (VE.br (VO.e (vo_lst (va_cons (VE.br (ve_var (pv 5))) va_nil))))))) va_nil)))))))) (vss_one (vs_ret (VE.o ve_bl))) vss_nil) (vss_cons (vs_if (VW.t (vw_and (vt_eq cxw.toVC.hr (VE.br (VO.e (vo_call cxw.toVC F__law_told (Nat.le_refl _) rfl (va_cons (VE.br (VO.e (vo_add (vb_var (pv 2)) (VE.br (VO.e (vo_lst (va_cons (VE.br (ve_var (pv 5))) va_nil))))))) va_nil)))) (vb_var (pv 3))) (vw_and1 (vt_not (vt_truth (VE.br (VO.e (vo_call cxw.toVC F_fits_shape (Nat.le_refl _) rfl (va_cons (VE.br (ve_var (pv 4))) (va_cons (VE.br (ve_var (pv 5))) va_nil)))))))))) (vss_one (vs_ret (VE.o ve_bl))) vss_nil) (vss_one (vs_ret (VE.o (VO.e (vo_eq cxw.toVC.hr (VE.br (VO.e (vo_call cxw.toVC F__law_told (Nat.le_refl _) rfl (va_cons (VE.br (VO.e (vo_add (vb_var (pv 2)) (VE.br (VO.e (vo_lst (va_cons (VE.br (VO.e (vo_lst (va_cons (VE.br (VO.e (vo_mulS (VE.br ve_str) (VE.br ve_int)))) va_nil)))) va_nil))))))) va_nil)))) (VE.br (ve_tup (va_cons (VE.br ve_str) (va_cons (VE.br ve_str) va_nil))))))))))))))))))

end
end K91
set_option linter.all false
set_option maxRecDepth 100000
set_option maxHeartbeats 4000000
namespace K91
open PySem PySem.Spec PyProof.Rows L2 VL
section
variable {P : Program} {w : World} {K : PySem.W.Frag} {mg : Str → Option Value} {base : Heap} (M : MF w K mg)
include M
theorem v__law_cell : VFn P w K mg base 1 "_law_cell" ["_law_script", "_law_k"] S__law_cell := ok__law_cell M  pure__law_cell
theorem v__law_mix : VFn P w K mg base 2 "_law_mix" ["_law_script", "_law_k"] S__law_mix := ok__law_mix M ((v__law_cell M).mono (by omega)) pure__law_mix
theorem v__law_draw : VFn P w K mg base 3 "_law_draw" ["_law_script", "_law_town", "_law_many"] S__law_draw := ok__law_draw M ((v__law_mix M).mono (by omega)) pure__law_draw
theorem v__law_pick : VFn P w K mg base 4 "_law_pick" ["_law_script", "_law_town", "_law_some"] S__law_pick := ok__law_pick M ((v__law_draw M).mono (by omega)) pure__law_pick
theorem v__law_few : ∀ n, VFn P w K mg base (n + 5) "_law_few" ["_law_script", "_law_town", "_law_deep"] (S__law_few n)
  | 0 => no__law_few M (by intro _ _ _ h; simp [S__law_few] at h)
  | n + 1 => ok__law_few M ((v__law_draw M).mono (by omega)) ((v__law_pick M).mono (by omega)) (v__law_few n) pure__law_few
theorem v__law_kind : VFn P w K mg base 1 "_law_kind" ["_law_thing"] S__law_kind := ok__law_kind M  pure__law_kind
theorem v__law_least : ∀ n, VFn P w K mg base (n * 2 + 2) "_law_least" ["_law_things"] (S__law_least n)
  | 0 => (no__law_least M (k := 0) (by intro _ _ _ h; simp [S__law_least] at h)).mono (by omega)
  | n + 1 => by
    have h := v__law_least n
    have g__law_entries : VFn P w K mg base (n * 2 + 3) "_law_entries" ["_law_tables"] (S__law_entries n) := ok__law_entries M (k := n * 2 + 2) (h.mono (by omega)) pure__law_entries
    exact (ok__law_least M (k := n * 2 + 3) ((v__law_kind M).mono (by omega)) (h.mono (by omega)) (g__law_entries.mono (by omega)) pure__law_least).mono (by omega)
theorem v__law_entries (n : Nat) : VFn P w K mg base (n * 2 + 3) "_law_entries" ["_law_tables"] (S__law_entries n) := ok__law_entries M (k := n * 2 + 2) ((v__law_least M n).mono (by omega)) pure__law_entries
theorem v_kind_of : VFn P w K mg base 1 "kind_of" ["thing"] S_kind_of := ok_kind_of M  pure_kind_of
theorem v_is_sign : VFn P w K mg base 1 "is_sign" ["sign"] S_is_sign := ok_is_sign M  pure_is_sign
theorem v_is_word : VFn P w K mg base 2 "is_word" ["word"] S_is_word := ok_is_word M ((v_is_sign M).mono (by omega)) pure_is_word
theorem v_inner_things : VFn P w K mg base 2 "inner_things" ["thing"] S_inner_things := ok_inner_things M ((v_kind_of M).mono (by omega)) pure_inner_things
theorem v_is_thing : ∀ n, VFn P w K mg base (n + 3) "is_thing" ["thing", "deep"] (S_is_thing n)
  | 0 => no_is_thing M (by intro _ _ _ h; simp [S_is_thing] at h)
  | n + 1 => ok_is_thing M ((v_kind_of M).mono (by omega)) ((v_is_word M).mono (by omega)) ((v_inner_things M).mono (by omega)) (v_is_thing n) pure_is_thing
theorem v_look_thing : VFn P w K mg base 17 "look_thing" ["thing"] S_look_thing := ok_look_thing M ((v_is_thing M 13).mono (by omega)) pure_look_thing
theorem v_shape_of : ∀ n, VFn P w K mg base (n * 4 + 2) "shape_of" ["things"] (S_shape_of n)
  | 0 => (no_shape_of M (k := 0) (by intro _ _ _ h; simp [S_shape_of] at h)).mono (by omega)
  | n + 1 => by
    have h := v_shape_of n
    have g_shape_of_rows : VFn P w K mg base (n * 4 + 3) "shape_of_rows" ["rows"] (S_shape_of_rows n) := ok_shape_of_rows M (k := n * 4 + 2) (h.mono (by omega)) pure_shape_of_rows
    have g_shape_of_tables : VFn P w K mg base (n * 4 + 4) "shape_of_tables" ["tables"] (S_shape_of_tables n) := ok_shape_of_tables M (k := n * 4 + 3) (h.mono (by omega)) pure_shape_of_tables
    have g_shape_of_kind : VFn P w K mg base (n * 4 + 5) "shape_of_kind" ["kind", "things"] (S_shape_of_kind n) := ok_shape_of_kind M (k := n * 4 + 4) (g_shape_of_rows.mono (by omega)) (g_shape_of_tables.mono (by omega)) pure_shape_of_kind
    exact (ok_shape_of M (k := n * 4 + 5) ((v_kind_of M).mono (by omega)) (g_shape_of_kind.mono (by omega)) pure_shape_of).mono (by omega)
theorem v_shape_of_rows (n : Nat) : VFn P w K mg base (n * 4 + 3) "shape_of_rows" ["rows"] (S_shape_of_rows n) := ok_shape_of_rows M (k := n * 4 + 2) ((v_shape_of M n).mono (by omega)) pure_shape_of_rows
theorem v_shape_of_tables (n : Nat) : VFn P w K mg base (n * 4 + 4) "shape_of_tables" ["tables"] (S_shape_of_tables n) := ok_shape_of_tables M (k := n * 4 + 3) ((v_shape_of M n).mono (by omega)) pure_shape_of_tables
theorem v_shape_of_kind (n : Nat) : VFn P w K mg base (n * 4 + 5) "shape_of_kind" ["kind", "things"] (S_shape_of_kind n) := ok_shape_of_kind M (k := n * 4 + 4) ((v_shape_of_rows M n).mono (by omega)) ((v_shape_of_tables M n).mono (by omega)) pure_shape_of_kind
theorem v_least_shape : VFn P w K mg base 23 "least_shape" ["things"] S_least_shape := ok_least_shape M ((v_look_thing M).mono (by omega)) ((v_shape_of M 5).mono (by omega)) pure_least_shape
theorem v__law_refusal : VFn P w K mg base 1 "_law_refusal" ["_law_held"] S__law_refusal := ok__law_refusal M  pure__law_refusal
theorem v__law_told : VFn P w K mg base 24 "_law_told" ["_law_things"] S__law_told := ok__law_told M ((v_least_shape M).mono (by omega)) ((v__law_refusal M).mono (by omega)) pure__law_told
theorem v_is_shape : ∀ n, VFn P w K mg base (n * 3 + 3) "is_shape" ["shape", "deep"] (S_is_shape n)
  | 0 => (no_is_shape M (k := 0) (by intro _ _ _ h; simp [S_is_shape] at h)).mono (by omega)
  | n + 1 => by
    have h := v_is_shape n
    have g_is_entry : VFn P w K mg base (n * 3 + 4) "is_entry" ["entry", "deep"] (S_is_entry n) := ok_is_entry M (k := n * 3 + 3) ((v_is_word M).mono (by omega)) (h.mono (by omega)) pure_is_entry
    have g_is_table_shape : VFn P w K mg base (n * 3 + 5) "is_table_shape" ["shape", "deep"] (S_is_table_shape n) := ok_is_table_shape M (k := n * 3 + 4) (g_is_entry.mono (by omega)) (h.mono (by omega)) pure_is_table_shape
    exact (ok_is_shape M (k := n * 3 + 5) (h.mono (by omega)) (g_is_table_shape.mono (by omega)) pure_is_shape).mono (by omega)
theorem v_is_entry (n : Nat) : VFn P w K mg base (n * 3 + 4) "is_entry" ["entry", "deep"] (S_is_entry n) := ok_is_entry M (k := n * 3 + 3) ((v_is_word M).mono (by omega)) ((v_is_shape M n).mono (by omega)) pure_is_entry
theorem v_is_table_shape (n : Nat) : VFn P w K mg base (n * 3 + 5) "is_table_shape" ["shape", "deep"] (S_is_table_shape n) := ok_is_table_shape M (k := n * 3 + 4) ((v_is_entry M n).mono (by omega)) ((v_is_shape M n).mono (by omega)) pure_is_table_shape
theorem v_look_shape : VFn P w K mg base 124 "look_shape" ["shape"] S_look_shape := ok_look_shape M ((v_is_shape M 40).mono (by omega)) pure_look_shape
theorem v_is_fit : ∀ n, VFn P w K mg base (n * 2 + 2) "is_fit" ["shape", "thing"] (S_is_fit n)
  | 0 => (no_is_fit M (k := 0) (by intro _ _ _ h; simp [S_is_fit] at h)).mono (by omega)
  | n + 1 => by
    have h := v_is_fit n
    have g_is_table_fit : VFn P w K mg base (n * 2 + 3) "is_table_fit" ["shape", "thing"] (S_is_table_fit n) := ok_is_table_fit M (k := n * 2 + 2) (h.mono (by omega)) pure_is_table_fit
    exact (ok_is_fit M (k := n * 2 + 3) (h.mono (by omega)) ((v_kind_of M).mono (by omega)) (g_is_table_fit.mono (by omega)) pure_is_fit).mono (by omega)
theorem v_is_table_fit (n : Nat) : VFn P w K mg base (n * 2 + 3) "is_table_fit" ["shape", "thing"] (S_is_table_fit n) := ok_is_table_fit M (k := n * 2 + 2) ((v_is_fit M n).mono (by omega)) pure_is_table_fit
theorem v_fits_shape : VFn P w K mg base 125 "fits_shape" ["shape", "thing"] S_fits_shape := ok_fits_shape M ((v_look_shape M).mono (by omega)) ((v_look_thing M).mono (by omega)) ((v_is_fit M 40).mono (by omega)) pure_fits_shape
theorem v__law_fits : ∀ n, VFn P w K mg base (n + 2) "_law_fits" ["_law_shape", "_law_thing"] (S__law_fits n)
  | 0 => no__law_fits M (by intro _ _ _ h; simp [S__law_fits] at h)
  | n + 1 => ok__law_fits M (v__law_fits n) ((v__law_kind M).mono (by omega)) pure__law_fits
end
theorem law_ok {P : Program} {w : World} {K : PySem.W.Frag} {mg : Str → Option Value} {base : Heap} (M : MF w K mg) {fd : FuncData} (Fd : FunD K "law" "law" (defArgs s_law) (defBody s_law) (defScope s_law) [] [] (He.ga K "law") fd) : FnOk P w K mg base (L2.CX P w) 126 (He.ga K "law") fd ["_law_script"] (toSp K 1 (SLaw 63 1048576)) :=
  fin_law M (k := 125) ((v__law_draw M).mono (by omega)) ((v__law_few M 5).mono (by omega)) ((v__law_least M 5).mono (by omega)) ((v__law_told M).mono (by omega)) ((v_fits_shape M).mono (by omega)) ((v__law_fits M 40).mono (by omega)) Fd pure_law
end K91
set_option linter.all false
set_option maxRecDepth 100000
set_option maxHeartbeats 4000000
namespace K91
open PySem PySem.Spec PyProof.Rows L2 VL
def q_kind_of : He.DefD := ⟨("kind_of", none), "kind_of", "kind_of", defArgs s_kind_of, defBody s_kind_of, defScope s_kind_of, [], []⟩
def q_is_sign : He.DefD := ⟨("is_sign", none), "is_sign", "is_sign", defArgs s_is_sign, defBody s_is_sign, defScope s_is_sign, [], []⟩
def q_is_word : He.DefD := ⟨("is_word", none), "is_word", "is_word", defArgs s_is_word, defBody s_is_word, defScope s_is_word, [], []⟩
def q_is_thing : He.DefD := ⟨("is_thing", none), "is_thing", "is_thing", defArgs s_is_thing, defBody s_is_thing, defScope s_is_thing, [], []⟩
def q_inner_things : He.DefD := ⟨("inner_things", none), "inner_things", "inner_things", defArgs s_inner_things, defBody s_inner_things, defScope s_inner_things, [], []⟩
def q_look_thing : He.DefD := ⟨("look_thing", none), "look_thing", "look_thing", defArgs s_look_thing, defBody s_look_thing, defScope s_look_thing, [], []⟩
def q_is_entry : He.DefD := ⟨("is_entry", none), "is_entry", "is_entry", defArgs s_is_entry, defBody s_is_entry, defScope s_is_entry, [], []⟩
def q_is_table_shape : He.DefD := ⟨("is_table_shape", none), "is_table_shape", "is_table_shape", defArgs s_is_table_shape, defBody s_is_table_shape, defScope s_is_table_shape, [], []⟩
def q_is_shape : He.DefD := ⟨("is_shape", none), "is_shape", "is_shape", defArgs s_is_shape, defBody s_is_shape, defScope s_is_shape, [], []⟩
def q_look_shape : He.DefD := ⟨("look_shape", none), "look_shape", "look_shape", defArgs s_look_shape, defBody s_look_shape, defScope s_look_shape, [], []⟩
def q_is_table_fit : He.DefD := ⟨("is_table_fit", none), "is_table_fit", "is_table_fit", defArgs s_is_table_fit, defBody s_is_table_fit, defScope s_is_table_fit, [], []⟩
def q_is_fit : He.DefD := ⟨("is_fit", none), "is_fit", "is_fit", defArgs s_is_fit, defBody s_is_fit, defScope s_is_fit, [], []⟩
def q_fits_shape : He.DefD := ⟨("fits_shape", none), "fits_shape", "fits_shape", defArgs s_fits_shape, defBody s_fits_shape, defScope s_fits_shape, [], []⟩
def q_shape_of_rows : He.DefD := ⟨("shape_of_rows", none), "shape_of_rows", "shape_of_rows", defArgs s_shape_of_rows, defBody s_shape_of_rows, defScope s_shape_of_rows, [], []⟩
def q_shape_of_tables : He.DefD := ⟨("shape_of_tables", none), "shape_of_tables", "shape_of_tables", defArgs s_shape_of_tables, defBody s_shape_of_tables, defScope s_shape_of_tables, [], []⟩
def q_shape_of_kind : He.DefD := ⟨("shape_of_kind", none), "shape_of_kind", "shape_of_kind", defArgs s_shape_of_kind, defBody s_shape_of_kind, defScope s_shape_of_kind, [], []⟩
def q_shape_of : He.DefD := ⟨("shape_of", none), "shape_of", "shape_of", defArgs s_shape_of, defBody s_shape_of, defScope s_shape_of, [], []⟩
def q_least_shape : He.DefD := ⟨("least_shape", none), "least_shape", "least_shape", defArgs s_least_shape, defBody s_least_shape, defScope s_least_shape, [], []⟩
def q__law_cell : He.DefD := ⟨("_law_cell", none), "_law_cell", "_law_cell", defArgs s__law_cell, defBody s__law_cell, defScope s__law_cell, [], []⟩
def q__law_mix : He.DefD := ⟨("_law_mix", none), "_law_mix", "_law_mix", defArgs s__law_mix, defBody s__law_mix, defScope s__law_mix, [], []⟩
def q__law_draw : He.DefD := ⟨("_law_draw", none), "_law_draw", "_law_draw", defArgs s__law_draw, defBody s__law_draw, defScope s__law_draw, [], []⟩
def q__law_pick : He.DefD := ⟨("_law_pick", none), "_law_pick", "_law_pick", defArgs s__law_pick, defBody s__law_pick, defScope s__law_pick, [], []⟩
def q__law_refusal : He.DefD := ⟨("_law_refusal", none), "_law_refusal", "_law_refusal", defArgs s__law_refusal, defBody s__law_refusal, defScope s__law_refusal, [], []⟩
def q__law_kind : He.DefD := ⟨("_law_kind", none), "_law_kind", "_law_kind", defArgs s__law_kind, defBody s__law_kind, defScope s__law_kind, [], []⟩
def q__law_few : He.DefD := ⟨("_law_few", none), "_law_few", "_law_few", defArgs s__law_few, defBody s__law_few, defScope s__law_few, [], []⟩
def q__law_fits : He.DefD := ⟨("_law_fits", none), "_law_fits", "_law_fits", defArgs s__law_fits, defBody s__law_fits, defScope s__law_fits, [], []⟩
def q__law_least : He.DefD := ⟨("_law_least", none), "_law_least", "_law_least", defArgs s__law_least, defBody s__law_least, defScope s__law_least, [], []⟩
def q__law_entries : He.DefD := ⟨("_law_entries", none), "_law_entries", "_law_entries", defArgs s__law_entries, defBody s__law_entries, defScope s__law_entries, [], []⟩
def q__law_told : He.DefD := ⟨("_law_told", none), "_law_told", "_law_told", defArgs s__law_told, defBody s__law_told, defScope s__law_told, [], []⟩
def q_law : He.DefD := ⟨("law", none), "law", "law", defArgs s_law, defBody s_law, defScope s_law, [], []⟩
def fn : List He.DefD := [q_kind_of, q_is_sign, q_is_word, q_is_thing, q_inner_things, q_look_thing, q_is_entry, q_is_table_shape, q_is_shape, q_look_shape, q_is_table_fit, q_is_fit, q_fits_shape, q_shape_of_rows, q_shape_of_tables, q_shape_of_kind, q_shape_of, q_least_shape, q__law_cell, q__law_mix, q__law_draw, q__law_pick, q__law_refusal, q__law_kind, q__law_few, q__law_fits, q__law_least, q__law_entries, q__law_told, q_law]
def fa : List He.Fa := [.glo "kind_of", .glo "is_sign", .glo "is_word", .glo "is_thing", .glo "inner_things", .glo "look_thing", .glo "is_entry", .glo "is_table_shape", .glo "is_shape", .glo "look_shape", .glo "is_table_fit", .glo "is_fit", .glo "fits_shape", .glo "shape_of_rows", .glo "shape_of_tables", .glo "shape_of_kind", .glo "shape_of", .glo "least_shape", .glo "_law_cell", .glo "_law_mix", .glo "_law_draw", .glo "_law_pick", .glo "_law_refusal", .glo "_law_kind", .glo "_law_few", .glo "_law_fits", .glo "_law_least", .glo "_law_entries", .glo "_law_told", .glo "law", .free "ValueError", .free "abs", .free "all", .free "any", .free "bool", .free "dict", .free "int", .free "isinstance", .free "len", .free "list", .free "max", .free "min", .free "ord", .free "range", .free "set", .free "sorted", .free "str", .free "tuple", .int "MOST_DEEP_shapes" 30, .int "MOST_DEEP_things" 12, .int "MOST_MANY" 1000000, .int "MOST_NUMBER" 999999999999999, .int "MOST_SIGNS" 60, .glo "BadText", .glo "BadThing", .glo "BadWay", .glo "NestError", .glo "NoGo", .glo "NoWay", .glo "Nothing", .exc "BadThing", .glo "SIZES", .glo "KINDS"]
def tbs : List He.Tab := [(fun K => He.ga K "SIZES", ["any", "none", "truth", "number", "word", "row", "table", "or"])]
def ex (K : PySem.W.Frag) : Bool := (ktB K (He.ga K "SIZES") kt_SIZES) && (klB K (He.ga K "KINDS") kl_KINDS) && (isiB K i_BadText (.ref (He.ga K "BadText"))) && (isiB K i_BadThing (.ref (He.ga K "BadThing"))) && (isiB K i_BadWay (.ref (He.ga K "BadWay"))) && (isiB K i_NoGo (.ref (He.ga K "NoGo"))) && (isiB K i_NoWay (.ref (He.ga K "NoWay"))) && (isiB K i_Nothing (.ref (He.ga K "Nothing"))) && (isiB K i_ValueError (.type "ValueError")) && (exmB K m_NestError (.ref (He.ga K "NestError")))
abbrev R : PySem.W.OpenRow := PySem.W.OpenLaw.row PySem.Challenge.rw_nestways_k91_whole_least_shape
abbrev hk : PySem.W.Hook := He.hookX 5 fa fn tbs [] ex
def ob (s : PySem.W.SharedT) : He.AlX := He.obsX 5 fa fn tbs [] ex (HandSHeadRun.getT s)
theorem ob_eq (s : PySem.W.SharedT) : ob s = hk.obs s.abs := He.obsX_eq (HandSHeadRun.getT_eq s)
def loose : List Str := (["NestError", "BadThing", "BadText", "BadWay", "NoWay", "NoGo", "Nothing", "MOST_NUMBER", "MOST_SIGNS", "MOST_DEEP_things"] : List Str) ++ (["kind_of", "is_sign", "is_word", "is_thing", "inner_things", "look_thing", "SIZES", "KINDS", "MOST_DEEP_shapes", "MOST_MANY"] : List Str) ++ (["is_entry", "is_table_shape", "is_shape", "look_shape", "is_table_fit", "is_fit", "fits_shape", "shape_of_rows", "shape_of_tables", "shape_of_kind"] : List Str) ++ (["shape_of", "least_shape", "_law_cell", "_law_mix", "_law_draw", "_law_pick", "_law_refusal", "_law_kind", "_law_few", "_law_fits"] : List Str) ++ (["_law_least", "_law_entries", "_law_told"] : List Str)
def ft (f : String → Bool) (b : Bool) : String → Bool := fun s => match decide (s = "special-get-raises") with
  | true => b
  | false => f s
theorem ft_eq (f : String → Bool) : ft f (f "special-get-raises") = f := by
  funext s
  unfold ft
  by_cases h : s = "special-get-raises"
  · subst h; simp
  · simp [h]
def wF (w : World) (b : Bool) : World := { w with params := { w.params with followText := ft w.params.followText b } }
theorem wF_eq (w : World) : wF w (w.params.followText "special-get-raises") = w := by
  unfold wF
  rw [ft_eq]
theorem run_true (w : World) : HandSHeadRun.RunEq R (PySem.W.view R.prog [47]) hk ob 8000 loose (wF w true) := by
  intro os
  kernel_rfl
theorem run_false (w : World) : HandSHeadRun.RunEq R (PySem.W.view R.prog [47]) hk ob 8000 loose (wF w false) := by
  intro os
  kernel_rfl
theorem run (w : World) : HandSHeadRun.RunEq R (PySem.W.view R.prog [47]) hk ob 8000 loose w := by
  have e := wF_eq w
  rw [← e]
  cases w.params.followText "special-get-raises" with
  | true => exact run_true w
  | false => exact run_false w
theorem mf {K : PySem.W.Frag} {h : Heap} {w : World} {mg : Str → Option Value} (X : K.In h) (G : h.Ns mainGlobals mg) (c : He.SaysX fa fn tbs [] ex w h K) : MF w K mg := by
  have cd : He.SaysD fa fn K := c.t.d
  have cm := c.more
  simp only [ex, Bool.and_eq_true] at cm
  exact {
    d_kind_of := cd.defs (d := q_kind_of) (by simp [fn])
    g_kind_of := He.glo_ok X G (cd.facts (f := .glo "kind_of") (by simp [fa]))
    d_is_sign := cd.defs (d := q_is_sign) (by simp [fn])
    g_is_sign := He.glo_ok X G (cd.facts (f := .glo "is_sign") (by simp [fa]))
    d_is_word := cd.defs (d := q_is_word) (by simp [fn])
    g_is_word := He.glo_ok X G (cd.facts (f := .glo "is_word") (by simp [fa]))
    d_is_thing := cd.defs (d := q_is_thing) (by simp [fn])
    g_is_thing := He.glo_ok X G (cd.facts (f := .glo "is_thing") (by simp [fa]))
    d_inner_things := cd.defs (d := q_inner_things) (by simp [fn])
    g_inner_things := He.glo_ok X G (cd.facts (f := .glo "inner_things") (by simp [fa]))
    d_look_thing := cd.defs (d := q_look_thing) (by simp [fn])
    g_look_thing := He.glo_ok X G (cd.facts (f := .glo "look_thing") (by simp [fa]))
    d_is_entry := cd.defs (d := q_is_entry) (by simp [fn])
    g_is_entry := He.glo_ok X G (cd.facts (f := .glo "is_entry") (by simp [fa]))
    d_is_table_shape := cd.defs (d := q_is_table_shape) (by simp [fn])
    g_is_table_shape := He.glo_ok X G (cd.facts (f := .glo "is_table_shape") (by simp [fa]))
    d_is_shape := cd.defs (d := q_is_shape) (by simp [fn])
    g_is_shape := He.glo_ok X G (cd.facts (f := .glo "is_shape") (by simp [fa]))
    d_look_shape := cd.defs (d := q_look_shape) (by simp [fn])
    g_look_shape := He.glo_ok X G (cd.facts (f := .glo "look_shape") (by simp [fa]))
    d_is_table_fit := cd.defs (d := q_is_table_fit) (by simp [fn])
    g_is_table_fit := He.glo_ok X G (cd.facts (f := .glo "is_table_fit") (by simp [fa]))
    d_is_fit := cd.defs (d := q_is_fit) (by simp [fn])
    g_is_fit := He.glo_ok X G (cd.facts (f := .glo "is_fit") (by simp [fa]))
    d_fits_shape := cd.defs (d := q_fits_shape) (by simp [fn])
    g_fits_shape := He.glo_ok X G (cd.facts (f := .glo "fits_shape") (by simp [fa]))
    d_shape_of_rows := cd.defs (d := q_shape_of_rows) (by simp [fn])
    g_shape_of_rows := He.glo_ok X G (cd.facts (f := .glo "shape_of_rows") (by simp [fa]))
    d_shape_of_tables := cd.defs (d := q_shape_of_tables) (by simp [fn])
    g_shape_of_tables := He.glo_ok X G (cd.facts (f := .glo "shape_of_tables") (by simp [fa]))
    d_shape_of_kind := cd.defs (d := q_shape_of_kind) (by simp [fn])
    g_shape_of_kind := He.glo_ok X G (cd.facts (f := .glo "shape_of_kind") (by simp [fa]))
    d_shape_of := cd.defs (d := q_shape_of) (by simp [fn])
    g_shape_of := He.glo_ok X G (cd.facts (f := .glo "shape_of") (by simp [fa]))
    d_least_shape := cd.defs (d := q_least_shape) (by simp [fn])
    g_least_shape := He.glo_ok X G (cd.facts (f := .glo "least_shape") (by simp [fa]))
    d__law_cell := cd.defs (d := q__law_cell) (by simp [fn])
    g__law_cell := He.glo_ok X G (cd.facts (f := .glo "_law_cell") (by simp [fa]))
    d__law_mix := cd.defs (d := q__law_mix) (by simp [fn])
    g__law_mix := He.glo_ok X G (cd.facts (f := .glo "_law_mix") (by simp [fa]))
    d__law_draw := cd.defs (d := q__law_draw) (by simp [fn])
    g__law_draw := He.glo_ok X G (cd.facts (f := .glo "_law_draw") (by simp [fa]))
    d__law_pick := cd.defs (d := q__law_pick) (by simp [fn])
    g__law_pick := He.glo_ok X G (cd.facts (f := .glo "_law_pick") (by simp [fa]))
    d__law_refusal := cd.defs (d := q__law_refusal) (by simp [fn])
    g__law_refusal := He.glo_ok X G (cd.facts (f := .glo "_law_refusal") (by simp [fa]))
    d__law_kind := cd.defs (d := q__law_kind) (by simp [fn])
    g__law_kind := He.glo_ok X G (cd.facts (f := .glo "_law_kind") (by simp [fa]))
    d__law_few := cd.defs (d := q__law_few) (by simp [fn])
    g__law_few := He.glo_ok X G (cd.facts (f := .glo "_law_few") (by simp [fa]))
    d__law_fits := cd.defs (d := q__law_fits) (by simp [fn])
    g__law_fits := He.glo_ok X G (cd.facts (f := .glo "_law_fits") (by simp [fa]))
    d__law_least := cd.defs (d := q__law_least) (by simp [fn])
    g__law_least := He.glo_ok X G (cd.facts (f := .glo "_law_least") (by simp [fa]))
    d__law_entries := cd.defs (d := q__law_entries) (by simp [fn])
    g__law_entries := He.glo_ok X G (cd.facts (f := .glo "_law_entries") (by simp [fa]))
    d__law_told := cd.defs (d := q__law_told) (by simp [fn])
    g__law_told := He.glo_ok X G (cd.facts (f := .glo "_law_told") (by simp [fa]))
    d_law := cd.defs (d := q_law) (by simp [fn])
    g_law := He.glo_ok X G (cd.facts (f := .glo "law") (by simp [fa]))
    n_ValueError := He.free_ok X G (cd.facts (f := .free "ValueError") (by simp [fa]))
    n_abs := He.free_ok X G (cd.facts (f := .free "abs") (by simp [fa]))
    n_all := He.free_ok X G (cd.facts (f := .free "all") (by simp [fa]))
    n_any := He.free_ok X G (cd.facts (f := .free "any") (by simp [fa]))
    n_bool := He.free_ok X G (cd.facts (f := .free "bool") (by simp [fa]))
    n_dict := He.free_ok X G (cd.facts (f := .free "dict") (by simp [fa]))
    n_int := He.free_ok X G (cd.facts (f := .free "int") (by simp [fa]))
    n_isinstance := He.free_ok X G (cd.facts (f := .free "isinstance") (by simp [fa]))
    n_len := He.free_ok X G (cd.facts (f := .free "len") (by simp [fa]))
    n_list := He.free_ok X G (cd.facts (f := .free "list") (by simp [fa]))
    n_max := He.free_ok X G (cd.facts (f := .free "max") (by simp [fa]))
    n_min := He.free_ok X G (cd.facts (f := .free "min") (by simp [fa]))
    n_ord := He.free_ok X G (cd.facts (f := .free "ord") (by simp [fa]))
    n_range := He.free_ok X G (cd.facts (f := .free "range") (by simp [fa]))
    n_set := He.free_ok X G (cd.facts (f := .free "set") (by simp [fa]))
    n_sorted := He.free_ok X G (cd.facts (f := .free "sorted") (by simp [fa]))
    n_str := He.free_ok X G (cd.facts (f := .free "str") (by simp [fa]))
    n_tuple := He.free_ok X G (cd.facts (f := .free "tuple") (by simp [fa]))
    c_MOST_DEEP_shapes := He.int_ok X G (cd.facts (f := .int "MOST_DEEP_shapes" 30) (by simp [fa]))
    c_MOST_DEEP_things := He.int_ok X G (cd.facts (f := .int "MOST_DEEP_things" 12) (by simp [fa]))
    c_MOST_MANY := He.int_ok X G (cd.facts (f := .int "MOST_MANY" 1000000) (by simp [fa]))
    c_MOST_NUMBER := He.int_ok X G (cd.facts (f := .int "MOST_NUMBER" 999999999999999) (by simp [fa]))
    c_MOST_SIGNS := He.int_ok X G (cd.facts (f := .int "MOST_SIGNS" 60) (by simp [fa]))
    g_BadText := He.glo_ok X G (cd.facts (f := .glo "BadText") (by simp [fa]))
    g_BadThing := He.glo_ok X G (cd.facts (f := .glo "BadThing") (by simp [fa]))
    g_BadWay := He.glo_ok X G (cd.facts (f := .glo "BadWay") (by simp [fa]))
    g_NestError := He.glo_ok X G (cd.facts (f := .glo "NestError") (by simp [fa]))
    g_NoGo := He.glo_ok X G (cd.facts (f := .glo "NoGo") (by simp [fa]))
    g_NoWay := He.glo_ok X G (cd.facts (f := .glo "NoWay") (by simp [fa]))
    g_Nothing := He.glo_ok X G (cd.facts (f := .glo "Nothing") (by simp [fa]))
    e_BadThing := He.exc_ok (cd.facts (f := .exc "BadThing") (by simp [fa]))
    t_SIZES := ktB_ok (He.glo_ok X G (cd.facts (f := .glo "SIZES") (by simp [fa]))) (c.t.tab 0) cm.1.1.1.1.1.1.1.1.1
    l_KINDS := klB_ok (He.glo_ok X G (cd.facts (f := .glo "KINDS") (by simp [fa]))) cm.1.1.1.1.1.1.1.1.2
    i_BadText := isiB_ok cm.1.1.1.1.1.1.1.2
    i_BadThing := isiB_ok cm.1.1.1.1.1.1.2
    i_BadWay := isiB_ok cm.1.1.1.1.1.2
    i_NoGo := isiB_ok cm.1.1.1.1.2
    i_NoWay := isiB_ok cm.1.1.1.2
    i_Nothing := isiB_ok cm.1.1.2
    i_ValueError := isiB_ok cm.1.2
    m_NestError := exmB_ok cm.2
  }
end K91
open PySem PySem.W PySem.Calls PyProof.Rows
theorem PySem.Challenge.cw_nestways_k91_whole_least_shape_holds : PySem.Challenge.rw_nestways_k91_whole_least_shape.Holds := by
  w_on; o_law
  refine HandSHeadRun.head_any (r := OpenLaw.row PySem.Challenge.rw_nestways_k91_whole_least_shape) (q := view (OpenLaw.row PySem.Challenge.rw_nestways_k91_whole_least_shape).prog [47]) (H := K91.hk) (ob := K91.ob) (M := 8000) (loose := K91.loose) (d := HandSHeadRun.topDef (OpenLaw.row PySem.Challenge.rw_nestways_k91_whole_least_shape).prog 47) (kwd := []) K91.ob_eq
    (by kernel_rfl) (fun s => by kernel_rfl) K91.run (by kernel_rfl) (by kernel_rfl) (by kernel_rfl) (by rfl) (by first | assumption | decide +kernel) (by decide +kernel) ⟨rfl, rfl, rfl, rfl, rfl, by decide +kernel⟩ ?hw ?hc
  case hw => w_witness2
  case hc =>
    refine VL.walk_vl (l := PySem.Challenge.rw_nestways_k91_whole_least_shape) (k := 126) (x := "_law_script") rfl (by kernel_rfl) ⟨rfl, by decide, by decide⟩ ?F
    intro w mg fa h Y G hmg0
    obtain ⟨K, KX, c⟩ := Y
    have hmg : mg ("law" : PySem.Str) = some (.ref fa) := by
      have e : (HandSHeadRun.topDef (OpenLaw.row PySem.Challenge.rw_nestways_k91_whole_least_shape).prog 47).name = ("law" : PySem.Str) := by kernel_rfl
      rw [← e]
      exact hmg0
    have M : K91.MF w K mg := K91.mf KX G c
    obtain ⟨fd, Fd⟩ := M.d_law
    have e := hmg.symm.trans M.g_law
    cases e
    exact ⟨K, fd, KX, fun s v => L2.FunD.bindsA (ps := ["_law_script"]) Fd (fun _ _ _ _ _ _ us hl => match us, hl with | [_], _ => rfl) s [v] rfl, fun base _ _ => K91.law_ok M Fd⟩
