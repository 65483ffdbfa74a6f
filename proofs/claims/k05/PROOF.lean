import PyProof.Rows.All
import Wide.All
import OpenK.AllK
import Wide.FinOn
import HandS.ForMost
import HandS.Exc
import HandS.TryOnly
import HandS.ExcOwn
import HandS.WordsExc
import HandS.Defaults
import HandS.HeadHook1
import HandS.HeadHook2
import HandS.Flow
import HandS.TupAny
import HandS.IsInst
import HandS.Text
import HandS.Style
import HandS.MakeKw
import HandS.MakeKwOnly
import HandS.Property
import HandS.Star
import HandS.ClsMeth
import HandS.Comp
import HandS.Iter
import HandS.Zip
import KE.GoesEnum
import HandS.SetFor
import HandS.Strs
import HandS.Dict
import PyProof.ReprRoads
import KE.KStateDown
import Lean
import HandS.Ends
import HandS.More
import HandS.Words
import HandS.Head0
import HandS.Head1
import HandS.Head2
import HandS.HeadEnd
import OpenK.KMeth
import KE.KOpsOwn
import HandS.SlotsOwn
import PyProof.InstEq
import PyProof.InstNe
import HandS.FStr
import KE.KUnpackStar
import PyProof.ReprLen
import PyProof.Rows.StrDigits
import HandS.NoneIn
import KE.GoesMore
import KE.GoesZip
import HandS.GenList
import PyProof.CompMap
import PyProof.Rows.ListAppend
import HandS.Records
import PySem.Challenge.RW_streamscreens_k05_boxes_of_sizes
set_option Elab.async false
set_option linter.all false
set_option maxRecDepth 100000
set_option maxHeartbeats 4000000
namespace DL
open PySem PySem.Spec PyProof.Rows L2
abbrev St := L2.St
def clsN : List Str := List.map Str.ofString ["ScreenError", "InvalidCommand", "InvalidText", "InvalidSide", "InvalidSign", "InvalidStyle", "InvalidRows", "InvalidBands", "InvalidCell", "InvalidBox",
  "InvalidNumber", "InvalidLine", "NotAStream", "NotAScreen", "FindError", "OtherSize", "Busy", "NothingToUndo", "LimitError", "TooManyCommands", "TooManyLetters", "TooManyStreams", "TooLarge",
  "Sizes", "Stream", "Screen", "Machine", "Map", "Parted", "Span", "Performance", "Terminal", "CountedTerminal", "BoundedTerminal", "CountedBoundedTerminal", "Console", "Region", "Run"]
def fldN : List Str := List.map Str.ofString ["index", "text", "value", "sign", "style", "cell", "number", "line", "found", "limit", "cells", "grid", "steps", "height", "width", "bands", "begun", "last_row", "last_column",
  "row", "column", "late", "top", "bottom", "wrap", "saved", "rows", "axis", "border", "low", "high", "columns", "wrapped", "stopped", "scrolled", "shown", "reached", "past", "working", "ceiling",
  "terminal", "lows", "tops", "region", "lanes"]
def clsNm (i : Nat) : Str := clsN.getD i ""
def fldNm (i : Nat) : Str := if i < 45 then fldN.getD i "" else ⟨(List.replicate (i + 100) 97).toArray⟩
theorem fldNm_len : ∀ i < 45, (fldNm i).cps.size < 100 := by decide +kernel
theorem fldNm_inj1 : ∀ i < 45, ∀ j < 45, fldNm i = fldNm j → i = j := by decide +kernel
theorem fldNm_big {i : Nat} (h : ¬ i < 45) : (fldNm i).cps.size = i + 100 := by
  unfold fldNm
  rw [if_neg h]
  simp
theorem fldNm_inj {i j : Nat} (h : fldNm i = fldNm j) : i = j := by
  by_cases hi : i < 45
  · by_cases hj : j < 45
    · exact fldNm_inj1 i hi j hj h
    · have := fldNm_len i hi
      rw [h, fldNm_big hj] at this
      omega
  · by_cases hj : j < 45
    · have := fldNm_len j hj
      rw [← h, fldNm_big hi] at this
      omega
    · have := fldNm_big hi
      rw [h, fldNm_big hj] at this
      omega
inductive Dat where
  | non | bl (b : Bool) | int (i : Int) | str (s : List Nat) | tup (ds : List Dat) | lst (ds : List Dat) | ins (c : Nat) (fs : List (Nat × Dat)) | dic | fl (ds : List Dat) | cls (c : Nat)
  deriving Inhabited
abbrev Fr := PySem.W.Frag
def isBl : Dat → Bool
  | .bl _ => true
  | _ => false
/-- a row of truths, not empty -/
def blT (ds : List Dat) : Bool := !ds.isEmpty && ds.all isBl
/-- the object at a has no dict: a tuple whose methods may be called -/
def PlT (K : Fr) (F : Hp) (a : Addr) : Prop := (∃ (ob : Obj) (u : HO), F a = some (.frz ob u) ∧ ob.dict = none) ∨ ∃ ob : Obj, K.lookup a = some ob ∧ ob.dict = none
def SqTP (K : Fr) (F : Hp) (a : Addr) (ds : List Dat) (xs : List V) : Prop := SqT K F a xs ∧ (blT ds = true → PlT K F a)
abbrev LIM : Nat := 16777216
def sV (l : List Nat) : Str := ⟨l.toArray⟩
mutual
/-- the value v shows the datum, by the frozen heap F -/
def Rep (K : Fr) (F : Hp) : Dat → V → Prop
  | .non, v => v = .non
  | .bl b, v => v = .bl b
  | .int i, v => v = .int i
  | .str s, v => s.length ≤ LIM ∧ v = .str (sV s)
  | .tup ds, v => ds.length ≤ LIM ∧ ∃ a xs, v = .ref a ∧ SqTP K F a ds xs ∧ Reps K F ds xs
  | .lst ds, v => ds.length ≤ LIM ∧ ∃ a xs, v = .ref a ∧ F a = some (.lst xs) ∧ Reps K F ds xs
  | .fl ds, v => ds.length ≤ LIM ∧ ∃ a xs, v = .ref a ∧ SqL K F a xs ∧ Reps K F ds xs
  | .ins c fs, v => ∃ a dx fv, v = .ref a ∧ F a = some (.ins (He.ga K (clsNm c)) dx fv) ∧ RepF K F fs fv
  | .dic, v => ∃ a, v = .ref a ∧ F a = some (.dK [])
  | .cls c, v => v = .ref (He.ga K (clsNm c))
def Reps (K : Fr) (F : Hp) : List Dat → List V → Prop
  | [], xs => xs = []
  | d :: ds, xs => ∃ x r, xs = x :: r ∧ Rep K F d x ∧ Reps K F ds r
def RepF (K : Fr) (F : Hp) : List (Nat × Dat) → List (Str × V) → Prop
  | [], fv => fv = []
  | (f, d) :: fs, fv => ∃ v r, fv = (fldNm f, v) :: r ∧ Rep K F d v ∧ RepF K F fs r
end
/-- a value in a slot: data, or the n-th cell -/
inductive DV where
  | d (x : Dat) | c (n : Nat)
  deriving Inhabited
/-- a cell: a list, an instance, one that was frozen -/
inductive Cel where
  | lst (ds : List Dat) | ins (c : Nat) (fs : List (Nat × DV)) | dead | lv (ds : List DV)
  deriving Inhabited
def Le (F F' : Hp) : Prop := ∀ a o, F a = some o → F' a = some o
theorem Le.refl (F : Hp) : Le F F := fun _ _ h => h
theorem Le.trans {F F1 F2 : Hp} (a : Le F F1) (b : Le F1 F2) : Le F F2 := fun x o h => b x o (a x o h)
theorem rd_le {F F' : Hp} (e : Le F F') {a : Addr} {u : HO} (h : Rd F a u) : Rd F' a u := by
  rcases h with h | ⟨o, h⟩
  · exact .inl (e _ _ h)
  · exact .inr ⟨o, e _ _ h⟩
theorem sqL_le {K : Fr} {F F' : Hp} (e : Le F F') {a : Addr} {xs : List V} (h : SqL K F a xs) : SqL K F' a xs := by
  rcases h with h | h
  · exact .inl (rd_le e h)
  · exact .inr h
theorem sqT_le0 {K : Fr} {F F' : Hp} (e : Le F F') {a : Addr} {xs : List V} (h : SqT K F a xs) : SqT K F' a xs := by
  rcases h with h | h
  · exact .inl (rd_le e h)
  · exact .inr h
theorem sqT_le {K : Fr} {F F' : Hp} (e : Le F F') {a : Addr} {ds : List Dat} {xs : List V} (h : SqTP K F a ds xs) : SqT K F' a xs := sqT_le0 e h.1
theorem plT_le {K : Fr} {F F' : Hp} (e : Le F F') {a : Addr} (h : PlT K F a) : PlT K F' a := by
  rcases h with ⟨ob, u, h1, h2⟩ | h
  · exact .inl ⟨ob, u, e _ _ h1, h2⟩
  · exact .inr h
theorem sqTP_le {K : Fr} {F F' : Hp} (e : Le F F') {a : Addr} {ds : List Dat} {xs : List V} (h : SqTP K F a ds xs) : SqTP K F' a ds xs := ⟨sqT_le0 e h.1, fun q => plT_le e (h.2 q)⟩
mutual
theorem Rep.le {K : Fr} {F F' : Hp} (e : Le F F') : ∀ {d : Dat} {v : V}, Rep K F d v → Rep K F' d v
  | .non, _, h => h
  | .bl _, _, h => h
  | .int _, _, h => h
  | .str _, _, h => h
  | .tup ds, _, ⟨z, a, xs, h1, h2, h3⟩ => ⟨z, a, xs, h1, sqTP_le e h2, Reps.le e h3⟩
  | .lst ds, _, ⟨z, a, xs, h1, h2, h3⟩ => ⟨z, a, xs, h1, e _ _ h2, Reps.le e h3⟩
  | .fl ds, _, ⟨z, a, xs, h1, h2, h3⟩ => ⟨z, a, xs, h1, sqL_le e h2, Reps.le e h3⟩
  | .ins c fs, _, ⟨a, dx, fv, h1, h2, h3⟩ => ⟨a, dx, fv, h1, e _ _ h2, RepF.le e h3⟩
  | .dic, _, ⟨a, h1, h2⟩ => ⟨a, h1, e _ _ h2⟩
  | .cls _, _, h => h
theorem Reps.le {K : Fr} {F F' : Hp} (e : Le F F') : ∀ {ds : List Dat} {xs : List V}, Reps K F ds xs → Reps K F' ds xs
  | [], _, h => h
  | _ :: _, _, ⟨x, r, h1, h2, h3⟩ => ⟨x, r, h1, Rep.le e h2, Reps.le e h3⟩
theorem RepF.le {K : Fr} {F F' : Hp} (e : Le F F') : ∀ {fs : List (Nat × Dat)} {fv : List (Str × V)}, RepF K F fs fv → RepF K F' fs fv
  | [], _, h => h
  | (_, _) :: _, _, ⟨v, r, h1, h2, h3⟩ => ⟨v, r, h1, Rep.le e h2, RepF.le e h3⟩
end
theorem Reps.length {K : Fr} {F : Hp} : ∀ {ds : List Dat} {xs : List V}, Reps K F ds xs → ds.length = xs.length
  | [], _, h => by cases (show _ = [] from h); rfl
  | _ :: ds, _, ⟨x, r, h1, _, h3⟩ => by subst h1; exact congrArg Nat.succ (Reps.length h3)
theorem Reps.nil {K : Fr} {F : Hp} : Reps K F [] [] := rfl
theorem Reps.cons {K : Fr} {F : Hp} {d : Dat} {ds : List Dat} {x : V} {xs : List V} (h : Rep K F d x) (t : Reps K F ds xs) : Reps K F (d :: ds) (x :: xs) := ⟨x, xs, rfl, h, t⟩
theorem Reps.append {K : Fr} {F : Hp} : ∀ {ds es : List Dat} {xs ys : List V}, Reps K F ds xs → Reps K F es ys → Reps K F (ds ++ es) (xs ++ ys)
  | [], _, _, _, h, t => by cases (show _ = [] from h); exact t
  | _ :: _, _, _, _, ⟨x, r, h1, h2, h3⟩, t => by subst h1; exact ⟨x, _, rfl, h2, Reps.append h3 t⟩
theorem Reps.get {K : Fr} {F : Hp} : ∀ {ds : List Dat} {xs : List V} {i : Nat} {x : V}, Reps K F ds xs → xs[i]? = some x → ∃ d, ds[i]? = some d ∧ Rep K F d x
  | [], _, _, _, h, e => by cases (show _ = [] from h); simp at e
  | d :: _, _, 0, _, ⟨x, r, h1, h2, h3⟩, e => by subst h1; simp at e; subst e; exact ⟨d, rfl, h2⟩
  | d :: _, _, i + 1, _, ⟨x, r, h1, h2, h3⟩, e => by subst h1; exact Reps.get (i := i) h3 (by simpa using e)
theorem Reps.got {K : Fr} {F : Hp} {ds : List Dat} {xs : List V} {i : Nat} {d : Dat} (h : Reps K F ds xs) (e : ds[i]? = some d) : ∃ x, xs[i]? = some x ∧ Rep K F d x := by
  have hl := h.length
  have hi : i < xs.length := by
    have := (List.getElem?_eq_some_iff.mp e).1
    omega
  obtain ⟨d', e', r⟩ := Reps.get (i := i) (x := xs[i]) h (by simp [hi])
  rw [e] at e'; cases e'
  exact ⟨xs[i], by simp [hi], r⟩
theorem Reps.take {K : Fr} {F : Hp} : ∀ {ds : List Dat} {xs : List V} (n : Nat), Reps K F ds xs → Reps K F (ds.take n) (xs.take n)
  | [], _, n, h => by cases (show _ = [] from h); simp; rfl
  | _ :: _, _, 0, _ => by simp; rfl
  | _ :: _, _, n + 1, ⟨x, r, h1, h2, h3⟩ => by subst h1; exact ⟨x, _, rfl, h2, Reps.take n h3⟩
theorem Reps.drop {K : Fr} {F : Hp} : ∀ {ds : List Dat} {xs : List V} (n : Nat), Reps K F ds xs → Reps K F (ds.drop n) (xs.drop n)
  | [], _, n, h => by cases (show _ = [] from h); simp; rfl
  | _ :: _, _, 0, h => h
  | _ :: _, _, n + 1, ⟨x, r, h1, h2, h3⟩ => by subst h1; exact Reps.drop n h3
theorem Reps.set {K : Fr} {F : Hp} {d : Dat} {x : V} (q : Rep K F d x) : ∀ {ds : List Dat} {xs : List V} (n : Nat), Reps K F ds xs → Reps K F (ds.set n d) (xs.set n x)
  | [], _, n, h => by cases (show _ = [] from h); simp; rfl
  | _ :: _, _, 0, ⟨y, r, h1, h2, h3⟩ => by subst h1; exact ⟨x, _, rfl, q, h3⟩
  | _ :: _, _, n + 1, ⟨y, r, h1, h2, h3⟩ => by subst h1; exact ⟨y, _, rfl, h2, Reps.set q n h3⟩
theorem Reps.reverse {K : Fr} {F : Hp} : ∀ {ds : List Dat} {xs : List V}, Reps K F ds xs → Reps K F ds.reverse xs.reverse
  | [], _, h => by cases (show _ = [] from h); exact rfl
  | _ :: _, _, ⟨y, r, h1, h2, h3⟩ => by
    subst h1
    rw [List.reverse_cons, List.reverse_cons]
    exact (Reps.reverse h3).append (.cons h2 .nil)
def RepV (K : Fr) (F : Hp) (α : List Addr) : DV → V → Prop
  | .d x, v => Rep K F x v
  | .c n, v => ∃ a, α[n]? = some a ∧ v = .ref a
def RepVs (K : Fr) (F : Hp) (α : List Addr) : List DV → List V → Prop
  | [], xs => xs = []
  | d :: ds, xs => ∃ x r, xs = x :: r ∧ RepV K F α d x ∧ RepVs K F α ds r
def RepVF (K : Fr) (F : Hp) (α : List Addr) : List (Nat × DV) → List (Str × V) → Prop
  | [], fv => fv = []
  | (f, d) :: fs, fv => ∃ v r, fv = (fldNm f, v) :: r ∧ RepV K F α d v ∧ RepVF K F α fs r
def CelOk (K : Fr) (F : Hp) (α : List Addr) (H : Hp) (a : Addr) : Cel → Prop
  | .lst ds => F a = none ∧ ds.length ≤ LIM ∧ ∃ xs, H a = some (.lst xs) ∧ Reps K F ds xs
  | .ins c fs => F a = none ∧ ∃ dx fv, H a = some (.ins (He.ga K (clsNm c)) dx fv) ∧ RepVF K F α fs fv
  | .dead => ∃ o, H a = some o
  | .lv ds => F a = none ∧ ds.length ≤ LIM ∧ ∃ xs, H a = some (.lst xs) ∧ RepVs K F α ds xs
structure Mem (K : Fr) (F H : Hp) (α : List Addr) (μ : List Cel) : Prop where
  fz : Le F H
  len : α.length = μ.length
  nd : α.Nodup
  ok : ∀ (n : Nat) (c : Cel) (a : Addr), μ[n]? = some c → α[n]? = some a → CelOk K F α H a c
structure Grow (F : Hp) (α : List Addr) (F' : Hp) (α' : List Addr) : Prop where
  f : Le F F'
  a : ∃ t, α' = α ++ t
theorem Grow.refl {F : Hp} {α : List Addr} : Grow F α F α := ⟨Le.refl F, [], by simp⟩
theorem Grow.trans {F F1 F2 : Hp} {α α1 α2 : List Addr} (a : Grow F α F1 α1) (b : Grow F1 α1 F2 α2) : Grow F α F2 α2 :=
  ⟨a.f.trans b.f, by obtain ⟨t, e⟩ := a.a; obtain ⟨u, e'⟩ := b.a; exact ⟨t ++ u, by rw [e', e, List.append_assoc]⟩⟩
theorem Grow.get {F F' : Hp} {α α' : List Addr} (g : Grow F α F' α') {n : Nat} {a : Addr} (h : α[n]? = some a) : α'[n]? = some a := by
  obtain ⟨t, e⟩ := g.a
  rw [e, List.getElem?_append_left (List.getElem?_eq_some_iff.mp h).1]
  exact h
theorem RepV.grow {K : Fr} {F F' : Hp} {α α' : List Addr} (g : Grow F α F' α') : ∀ {d : DV} {v : V}, RepV K F α d v → RepV K F' α' d v
  | .d _, _, h => Rep.le g.f h
  | .c _, _, ⟨a, h, e⟩ => ⟨a, g.get h, e⟩
theorem RepVs.grow {K : Fr} {F F' : Hp} {α α' : List Addr} (g : Grow F α F' α') : ∀ {ds : List DV} {vs : List V}, RepVs K F α ds vs → RepVs K F' α' ds vs
  | [], _, h => h
  | _ :: _, _, ⟨x, r, h1, h2, h3⟩ => ⟨x, r, h1, h2.grow g, h3.grow g⟩
theorem RepVF.grow {K : Fr} {F F' : Hp} {α α' : List Addr} (g : Grow F α F' α') : ∀ {ds : List (Nat × DV)} {vs : List (Str × V)}, RepVF K F α ds vs → RepVF K F' α' ds vs
  | [], _, h => h
  | (_, _) :: _, _, ⟨x, r, h1, h2, h3⟩ => ⟨x, r, h1, h2.grow g, h3.grow g⟩
theorem RepVs.length {K : Fr} {F : Hp} {α : List Addr} : ∀ {ds : List DV} {xs : List V}, RepVs K F α ds xs → ds.length = xs.length
  | [], _, h => by cases (show _ = [] from h); rfl
  | _ :: ds, _, ⟨x, r, h1, _, h3⟩ => by subst h1; exact congrArg Nat.succ (RepVs.length h3)
theorem RepVs.got {K : Fr} {F : Hp} {α : List Addr} : ∀ {ds : List DV} {xs : List V} {i : Nat} {d : DV}, RepVs K F α ds xs → ds[i]? = some d → ∃ x, xs[i]? = some x ∧ RepV K F α d x
  | [], _, _, _, _, e => by simp at e
  | _ :: _, _, 0, _, ⟨x, r, h1, h2, h3⟩, e => by subst h1; simp at e; subst e; exact ⟨x, rfl, h2⟩
  | _ :: _, _, i + 1, _, ⟨x, r, h1, h2, h3⟩, e => by subst h1; exact RepVs.got (i := i) h3 (by simpa using e)
section
variable {K : Fr} {F H : Hp} {α : List Addr} {μ : List Cel}
theorem CelOk.there {a : Addr} : ∀ {c : Cel}, CelOk K F α H a c → ∃ o, H a = some o
  | .lst _, ⟨_, _, xs, h, _⟩ => ⟨_, h⟩
  | .ins _ _, ⟨_, dx, fv, h, _⟩ => ⟨_, h⟩
  | .dead, h => h
  | .lv _, ⟨_, _, xs, h, _⟩ => ⟨_, h⟩
theorem Mem.fresh (m : Mem K F H α μ) {p : Addr} (hp : H p = none) : F p = none ∧ p ∉ α := by
  constructor
  · cases e : F p with
    | none => rfl
    | some o => rw [m.fz _ _ e] at hp; cases hp
  · intro hm
    obtain ⟨n, hn⟩ := List.getElem?_of_mem hm
    have hl : n < μ.length := by rw [← m.len]; exact (List.getElem?_eq_some_iff.mp hn).1
    obtain ⟨o, q⟩ := (m.ok n μ[n] p (by simp [hl]) hn).there
    rw [q] at hp; cases hp
theorem CelOk.le {F' H' : Hp} {α' : List Addr} {a : Addr} (g : Grow F α F' α') (hF : F' a = F a) (hH : ∀ o, H a = some o → H' a = some o) : ∀ {c : Cel}, CelOk K F α H a c → CelOk K F' α' H' a c
  | .lst _, ⟨h0, z, xs, h, r⟩ => ⟨by rw [hF]; exact h0, z, xs, hH _ h, r.le g.f⟩
  | .ins _ _, ⟨h0, dx, fv, h, r⟩ => ⟨by rw [hF]; exact h0, dx, fv, hH _ h, r.grow g⟩
  | .dead, ⟨o, h⟩ => ⟨o, hH _ h⟩
  | .lv _, ⟨h0, z, xs, h, r⟩ => ⟨by rw [hF]; exact h0, z, xs, hH _ h, r.grow g⟩
/-- a new frozen object -/
theorem Mem.laid (m : Mem K F H α μ) {p : Addr} {o : HO} (hp : H p = none) : Mem K (upd F p o) (upd H p o) α μ ∧ Grow F α (upd F p o) α := by
  obtain ⟨f0, na⟩ := m.fresh hp
  have g : Grow F α (upd F p o) α := ⟨fun a u e => by rw [upd_ne (ne_of_none e f0)]; exact e, [], by simp⟩
  refine ⟨⟨fun a u e => ?_, m.len, m.nd, fun n c a h1 h2 => ?_⟩, g⟩
  · by_cases h : a = p
    · subst h; rw [upd_same] at e ⊢; exact e
    · rw [upd_ne h] at e ⊢; exact m.fz _ _ e
  · have hne : a ≠ p := fun e => na (e ▸ List.mem_of_getElem? h2)
    exact CelOk.le g (upd_ne hne) (fun o' q => by rw [upd_ne hne]; exact q) (m.ok n c a h1 h2)
/-- the tracked heap grows by things that nobody of us knows -/
theorem Mem.more {H' : Hp} (m : Mem K F H α μ) (h : Le H H') : Mem K F H' α μ :=
  ⟨m.fz.trans h, m.len, m.nd, fun n c a h1 h2 => CelOk.le Grow.refl rfl (fun o q => h _ _ q) (m.ok n c a h1 h2)⟩
theorem Le.new {p : Addr} {o : HO} (hp : H p = none) : Le H (upd H p o) := fun a u e => by rw [upd_ne (ne_of_none e hp)]; exact e
theorem getElem?_snoc {β : Type} {l : List β} {x y : β} {n : Nat} (h : (l ++ [x])[n]? = some y) : l[n]? = some y ∨ (n = l.length ∧ y = x) := by
  by_cases hn : n < l.length
  · rw [List.getElem?_append_left hn] at h; exact .inl h
  · rw [List.getElem?_append_right (by omega)] at h
    by_cases h0 : n - l.length = 0
    · rw [h0] at h; simp at h; exact .inr ⟨by omega, h.symm⟩
    · obtain ⟨k, hk⟩ : ∃ k, n - l.length = k + 1 := ⟨n - l.length - 1, by omega⟩
      rw [hk] at h; simp at h
theorem Mem.fr (m : Mem K F H α μ) {a : Addr} {o : HO} (h : F a = some o) : H a = some o := m.fz _ _ h
/-- a new cell -/
theorem Mem.cell (m : Mem K F H α μ) {p : Addr} {o : HO} {c : Cel} (hp : H p = none) (hc : CelOk K F (α ++ [p]) (upd H p o) p c) : Mem K F (upd H p o) (α ++ [p]) (μ ++ [c]) ∧ Grow F α F (α ++ [p]) := by
  obtain ⟨f0, na⟩ := m.fresh hp
  have g : Grow F α F (α ++ [p]) := ⟨Le.refl F, [p], rfl⟩
  refine ⟨⟨m.fz.trans (Le.new hp), by simp [m.len], ?_, fun n c' a h1 h2 => ?_⟩, g⟩
  · rw [List.nodup_append]
    exact ⟨m.nd, by simp, fun a ha b hb => by simp at hb; subst hb; exact fun e => na (e ▸ ha)⟩
  · rcases getElem?_snoc h2 with h2 | ⟨e, rfl⟩
    · have hn : n < μ.length := by rw [← m.len]; exact (List.getElem?_eq_some_iff.mp h2).1
      rw [List.getElem?_append_left hn] at h1
      have hne : a ≠ p := fun e => na (e ▸ List.mem_of_getElem? h2)
      exact CelOk.le g rfl (fun o' q => by rw [upd_ne hne]; exact q) (m.ok n c' a h1 h2)
    · rw [m.len] at e; subst e
      rw [List.getElem?_append_right (Nat.le_refl _)] at h1
      simp at h1; subst h1; exact hc
theorem nodup_get {β : Type} {l : List β} (h : l.Nodup) {i j : Nat} {x : β} (a : l[i]? = some x) (b : l[j]? = some x) : i = j := by
  obtain ⟨h1, e1⟩ := List.getElem?_eq_some_iff.mp a
  obtain ⟨h2, e2⟩ := List.getElem?_eq_some_iff.mp b
  exact (List.getElem_inj h).mp (e1.trans e2.symm)
/-- a cell is changed -/
theorem Mem.write (m : Mem K F H α μ) {n : Nat} {a : Addr} {o : HO} {c : Cel} (ha : α[n]? = some a) (hF : F a = none) (hc : CelOk K F α (upd H a o) a c) : Mem K F (upd H a o) α (μ.set n c) := by
  refine ⟨fun b u e => ?_, by simp [m.len], m.nd, fun k c' b h1 h2 => ?_⟩
  · rw [upd_ne (ne_of_none e hF)]; exact m.fz _ _ e
  · by_cases hk : k = n
    · subst hk
      have hl : k < μ.length := by rw [← m.len]; exact (List.getElem?_eq_some_iff.mp ha).1
      rw [List.getElem?_set_self hl] at h1
      rw [ha] at h2; cases h1; cases h2; exact hc
    · rw [List.getElem?_set_ne (Ne.symm hk)] at h1
      have hne : b ≠ a := fun e => hk (nodup_get m.nd h2 (e ▸ ha))
      exact CelOk.le Grow.refl rfl (fun o' q => by rw [upd_ne hne]; exact q) (m.ok k c' b h1 h2)
/-- a cell is frozen: its object joins F -/
theorem Mem.freeze (m : Mem K F H α μ) {n : Nat} {a : Addr} {o : HO} (ha : α[n]? = some a) (hF : F a = none) (hH : H a = some o) : Mem K (upd F a o) H α (μ.set n .dead) ∧ Grow F α (upd F a o) α := by
  have g : Grow F α (upd F a o) α := ⟨fun b u e => by rw [upd_ne (ne_of_none e hF)]; exact e, [], by simp⟩
  refine ⟨⟨fun b u e => ?_, by simp [m.len], m.nd, fun k c' b h1 h2 => ?_⟩, g⟩
  · by_cases hb : b = a
    · subst hb; rw [upd_same] at e; cases e; exact hH
    · rw [upd_ne hb] at e; exact m.fz _ _ e
  · by_cases hk : k = n
    · subst hk
      have hl : k < μ.length := by rw [← m.len]; exact (List.getElem?_eq_some_iff.mp ha).1
      rw [List.getElem?_set_self hl] at h1
      rw [ha] at h2; cases h1; cases h2; exact ⟨o, hH⟩
    · rw [List.getElem?_set_ne (Ne.symm hk)] at h1
      have hne : b ≠ a := fun e => hk (nodup_get m.nd h2 (e ▸ ha))
      exact CelOk.le g (upd_ne hne) (fun o' q => q) (m.ok k c' b h1 h2)
end
/-- an exception: its class, its attributes -/
structure Exn where
  cls : Nat
  fs : List (Nat × Dat)
def ExnRep (K : Fr) (F : Hp) (e : Exn) (cls : Value) (d : Option Addr) : Prop := cls = .ref (He.ga K (clsNm e.cls)) ∧
  (match e.fs with
   | [] => True
   | fs => ∃ dx fv, d = some dx ∧ F dx = some (.xd fv) ∧ RepF K F fs fv)
inductive Out (τ : Type) where
  | ok (v : τ) (μ : List Cel) | raise (e : Exn) (μ : List Cel) | stuck
def Out.bind {τ υ : Type} (o : Out τ) (f : τ → List Cel → Out υ) : Out υ := match o with
  | .ok v μ => f v μ
  | .raise e μ => .raise e μ
  | .stuck => .stuck
@[simp] theorem bind_ok {τ υ : Type} (v : τ) (μ : List Cel) (f : τ → List Cel → Out υ) : (Out.ok v μ).bind f = f v μ := rfl
@[simp] theorem bind_raise {τ υ : Type} (e : Exn) (μ : List Cel) (f : τ → List Cel → Out υ) : (Out.raise e μ : Out τ).bind f = .raise e μ := rfl
@[simp] theorem bind_stuck {τ υ : Type} (f : τ → List Cel → Out υ) : (Out.stuck : Out τ).bind f = .stuck := rfl
abbrev Rho := List (Option DV)
section
variable {K : Fr}
def Slots (K : Fr) (F : Hp) (α : List Addr) (ρ : Rho) (σ : St) : Prop := ρ.length = σ.length ∧ ∀ (i : Nat) (v : DV), ρ[i]? = some (some v) → ∃ u, σ[i]? = some (some u) ∧ RepV K F α v u
theorem Slots.grow {F F' : Hp} {α α' : List Addr} {ρ : Rho} {σ : St} (g : Grow F α F' α') (s : Slots K F α ρ σ) : Slots K F' α' ρ σ :=
  ⟨s.1, fun i v h => let ⟨u, a, b⟩ := s.2 i v h; ⟨u, a, b.grow g⟩⟩
theorem Slots.set {F : Hp} {α : List Addr} {ρ : Rho} {σ : St} (s : Slots K F α ρ σ) {v : DV} {u : V} (i : Nat) (r : RepV K F α v u) : Slots K F α (ρ.set i (some v)) (σ.set i (some u)) := by
  refine ⟨by simp [s.1], fun j w h => ?_⟩
  by_cases hj : i = j
  · subst hj
    by_cases hl : i < ρ.length
    · rw [List.getElem?_set_self hl] at h
      cases h
      exact ⟨u, by rw [List.getElem?_set_self (by rw [← s.1]; exact hl)], r⟩
    · rw [List.getElem?_eq_none (by simpa using hl)] at h; cases h
  · rw [List.getElem?_set_ne hj] at h ⊢
    exact s.2 j w h
/-- what is wanted of an outcome -/
def OutOk {τ ω : Type} (R : Hp → List Addr → τ → ω → Prop) (K : Fr) (F : Hp) (α : List Addr) (o : Out τ) (Q : ω → Hp → Prop) (W : XK) : Prop := match o with
  | .ok v μ' => ∀ u F' α' H', Grow F α F' α' → Mem K F' H' α' μ' → R F' α' v u → Q u H'
  | .raise e μ' => ∀ cls dx F' α' H', Grow F α F' α' → Mem K F' H' α' μ' → ExnRep K F' e cls dx → W cls dx H'
  | .stuck => False
theorem OutOk.grow {τ ω : Type} {R : Hp → List Addr → τ → ω → Prop} {F F' : Hp} {α α' : List Addr} {o : Out τ} {Q : ω → Hp → Prop} {W : XK} (g : Grow F α F' α') (h : OutOk R K F α o Q W) : OutOk R K F' α' o Q W := by
  cases o with
  | ok v μ => exact fun u F2 α2 H2 g2 m r => h u F2 α2 H2 (g.trans g2) m r
  | raise e μ => exact fun cls dx F2 α2 H2 g2 m r => h cls dx F2 α2 H2 (g.trans g2) m r
  | stuck => exact h
theorem OutOk.imp {τ ω : Type} {R : Hp → List Addr → τ → ω → Prop} {F : Hp} {α : List Addr} {o : Out τ} {Q Q' : ω → Hp → Prop} {W : XK} (h : OutOk R K F α o Q W) (hq : ∀ u H, Q u H → Q' u H) : OutOk R K F α o Q' W := by
  cases o with
  | ok v μ => exact fun u F2 α2 H2 g2 m r => hq _ _ (h u F2 α2 H2 g2 m r)
  | raise e μ => exact h
  | stuck => exact h
abbrev RV (K : Fr) : Hp → List Addr → DV → V → Prop := fun F α v u => RepV K F α v u
abbrev RVs (K : Fr) : Hp → List Addr → List DV → List V → Prop := fun F α v u => RepVs K F α v u
abbrev RB : Hp → List Addr → Bool → Bool → Prop := fun _ _ v u => u = v
abbrev EX := Rho → List Cel → Out DV
abbrev EXs := Rho → List Cel → Out (List DV)
abbrev TX := Rho → List Cel → Out Bool
/-- the reading of code that computes x -/
def tX {τ ω : Type} (R : Hp → List Addr → τ → ω → Prop) (K : Fr) (W : WX) (x : Rho → List Cel → Out τ) : St → Hp → (ω → Hp → Prop) → Prop :=
  fun σ H Q => ∃ F α ρ μ, Mem K F H α μ ∧ Slots K F α ρ σ ∧ OutOk R K F α (x ρ μ) Q (fun cls dx H' => W cls dx σ H')
abbrev tD (K : Fr) (W : WX) (x : EX) : TE := tX (RV K) K W x
abbrev tDs (K : Fr) (W : WX) (x : EXs) : TA := tX (RVs K) K W x
abbrev tDT (K : Fr) (W : WX) (x : TX) : TT := tX RB K W x
end
/-- the expression e computes x -/
structure DE (X : Cx) (W : WX) (e : Expr) (x : EX) : Prop where
  pe : PE X e (tD X.K W x)
structure DA (X : Cx) (W : WX) (es : List Expr) (x : EXs) : Prop where
  pa : PA X es (tDs X.K W x)
structure DT (X : Cx) (W : WX) (e : Expr) (x : TX) : Prop where
  pt : PT X e (tDT X.K W x)
theorem PE.of {X : Cx} {e : Expr} {t t' : TE} (h : PE X e t) (i : ∀ σ H Q, t' σ H Q → t σ H Q) : PE X e t' := ⟨fun pins s σ H Q I hw => h.run pins s σ H Q I (i σ H Q hw)⟩
theorem PT.of {X : Cx} {e : Expr} {t t' : TT} (h : PT X e t) (i : ∀ σ H Q, t' σ H Q → t σ H Q) : PT X e t' := ⟨fun pins s σ H Q I hw => h.run pins s σ H Q I (i σ H Q hw)⟩
theorem PA.of {X : Cx} {es : List Expr} {t t' : TA} (h : PA X es t) (i : ∀ σ H Q, t' σ H Q → t σ H Q) : PA X es t' := ⟨fun pos pins s σ H Q I hw => h.run pos pins s σ H Q I (i σ H Q hw)⟩
theorem PSs.of {X : Cx} {st : List Stmt} {t t' : TS} (h : PSs X st t) (i : ∀ D σ H, t' D σ H → t D σ H) : PSs X st t' := ⟨fun pins s σ H D I hw => h.run pins s σ H D I (i D σ H hw)⟩
theorem PS.of {X : Cx} {st : Stmt} {t t' : TS} (h : PS X st t) (i : ∀ D σ H, t' D σ H → t D σ H) : PS X st t' := ⟨fun pins s σ H D I hw => h.run pins s σ H D I (i D σ H hw)⟩
/-- one thing computed, then what follows -/
theorem tX_bind {τ υ ω χ : Type} {R : Hp → List Addr → τ → ω → Prop} {R' : Hp → List Addr → υ → χ → Prop} {K : Fr} {W : WX} {x : Rho → List Cel → Out τ} {f : Rho → τ → List Cel → Out υ} {σ : St} {H : Hp} {Q : χ → Hp → Prop} {Q' : ω → Hp → Prop}
    (h : tX R' K W (fun ρ μ => (x ρ μ).bind (f ρ)) σ H Q)
    (k : ∀ F α ρ μ v u H1, Mem K F H1 α μ → Slots K F α ρ σ → R F α v u → OutOk R' K F α (f ρ v μ) Q (fun cls dx H' => W cls dx σ H') → Q' u H1) : tX R K W x σ H Q' := by
  obtain ⟨F, α, ρ, μ, m, s, o⟩ := h
  refine ⟨F, α, ρ, μ, m, s, ?_⟩
  have o : OutOk R' K F α ((x ρ μ).bind (f ρ)) Q (fun cls dx H' => W cls dx σ H') := o
  cases e : x ρ μ with
  | ok v μ1 =>
    rw [e] at o
    intro u F1 α1 H1 g m1 r
    exact k F1 α1 ρ μ1 v u H1 m1 (s.grow g) r (OutOk.grow g o)
  | raise ex μ1 => rw [e] at o; exact o
  | stuck => rw [e] at o; exact o
theorem OutOk.bind {τ υ ω χ : Type} {R : Hp → List Addr → τ → ω → Prop} {R' : Hp → List Addr → υ → χ → Prop} {K : Fr} {F : Hp} {α : List Addr} {o : Out τ} {f : τ → List Cel → Out υ} {Q : χ → Hp → Prop} {Q' : ω → Hp → Prop} {W : XK}
    (h : OutOk R' K F α (o.bind f) Q W) (k : ∀ v u F1 α1 μ1 H1, Grow F α F1 α1 → Mem K F1 H1 α1 μ1 → R F1 α1 v u → OutOk R' K F1 α1 (f v μ1) Q W → Q' u H1) : OutOk R K F α o Q' W := by
  cases o with
  | ok v μ1 => exact fun u F1 α1 H1 g m r => k v u F1 α1 μ1 H1 g m r (OutOk.grow g h)
  | raise e μ1 => exact h
  | stuck => exact h
theorem tX_mk {τ ω : Type} {R : Hp → List Addr → τ → ω → Prop} {K : Fr} {W : WX} {x : Rho → List Cel → Out τ} {σ : St} {F H : Hp} {α : List Addr} {ρ : Rho} {μ : List Cel} {Q : ω → Hp → Prop} (m : Mem K F H α μ) (s : Slots K F α ρ σ)
    (o : OutOk R K F α (x ρ μ) Q (fun cls dx H' => W cls dx σ H')) : tX R K W x σ H Q := ⟨F, α, ρ, μ, m, s, o⟩
theorem OutOk.here {τ ω : Type} {R : Hp → List Addr → τ → ω → Prop} {K : Fr} {F H : Hp} {α : List Addr} {μ : List Cel} {v : τ} {u : ω} {Q : ω → Hp → Prop} {W : XK} (o : OutOk R K F α (.ok v μ) Q W) (m : Mem K F H α μ) (r : R F α v u) : Q u H :=
  o u F α H Grow.refl m r
end DL
set_option Elab.async false
set_option linter.all false
set_option maxRecDepth 100000
set_option maxHeartbeats 4000000
namespace DL
open PySem PySem.Spec PyProof.Rows L2
def eK (v : Dat) : EX := fun _ μ => .ok (.d v) μ
def eV (i : Nat) : EX := fun ρ μ => match ρ[i]? with
  | some (some v) => .ok v μ
  | _ => .stuck
section
variable {X : Cx} {W : WX} {pos : Pos}
theorem de_k {e : Expr} {v : Dat} {x : V} (h : PE X e (tC x)) (r : ∀ F, Rep X.K F v x) : DE X W e (eK v) := ⟨PE.of h fun σ H Q ⟨F, α, ρ, μ, m, s, o⟩ => OutOk.here (R := RV X.K) o m (r F)⟩
theorem de_int {i j} : DE X W (.Constant (.int i) j pos) (eK (.int i)) := de_k pe_int fun _ => rfl
theorem de_bl {b j} : DE X W (.Constant (.bool b) j pos) (eK (.bl b)) := de_k pe_bl fun _ => rfl
theorem de_non {j} : DE X W (.Constant .none j pos) (eK .non) := de_k pe_non fun _ => rfl
theorem de_str {x : Str} {j} {l : List Nat} (h : x = sV l := by rfl) (hl : l.length ≤ LIM := by decide) : DE X W (.Constant (.str x) j pos) (eK (.str l)) := de_k pe_str fun _ => ⟨hl, by rw [h]⟩
theorem de_v (i : Nat) {x : Str} (hN : X.N[i]? = some x := by rfl) (hv : Vis X.env.scope x := by first | exact Or.inl rfl | exact Or.inr (Or.inl rfl) | exact Or.inr (Or.inr rfl)) (hd : (x == ("__debug__" : Str)) = false := by decide)
    (hcd : (x == ("__classdict__" : Str)) = false := by decide) : DE X W (.Name x pos) (eV i) := by
  refine ⟨PE.of (pe_var hN hv hd hcd) fun σ H Q ⟨F, α, ρ, μ, m, s, o⟩ => ?_⟩
  unfold eV at o
  cases e : ρ[i]? with
  | none => rw [e] at o; exact o.elim
  | some v =>
    rw [e] at o
    cases v with
    | none => exact o.elim
    | some v =>
      obtain ⟨u, h1, r⟩ := s.2 i v e
      exact ⟨u, h1, OutOk.here (R := RV X.K) o m r⟩
/-- a global of the module -/
theorem de_g {x : Str} {v : Dat} {u : Value} {w : V} (hg : Gl X x) (hm : X.mg x = some u) (r : RelV w u) (rep : ∀ F, Rep X.K F v w) (hd : (x == ("__debug__" : Str)) = false := by decide) : DE X W (.Name x pos) (eK v) :=
  de_k (pe_glob hg hm r hd) rep
end
abbrev G2 := DV → DV → List Cel → Out DV
abbrev G1 := DV → List Cel → Out DV
abbrev Gn := List DV → List Cel → Out DV
def OpOk (K : Fr) (r : R2) (g : G2) : Prop := ∀ (F : Hp) (α : List Addr) (μ : List Cel) (H : Hp) (d1 d2 : DV) (x y : V) (Q : VK) (W : XK), Mem K F H α μ → RepV K F α d1 x → RepV K F α d2 y → OutOk (RV K) K F α (g d1 d2 μ) Q W → r x y H Q
def UnOk (K : Fr) (r : V → Hp → VK → Prop) (g : G1) : Prop := ∀ (F : Hp) (α : List Addr) (μ : List Cel) (H : Hp) (d1 : DV) (x : V) (Q : VK) (W : XK), Mem K F H α μ → RepV K F α d1 x → OutOk (RV K) K F α (g d1 μ) Q W → r x H Q
def CaOk (K : Fr) (r : List V → Hp → VK → Prop) (g : Gn) : Prop := ∀ (F : Hp) (α : List Addr) (μ : List Cel) (H : Hp) (ds : List DV) (xs : List V) (Q : VK) (W : XK), Mem K F H α μ → RepVs K F α ds xs → OutOk (RV K) K F α (g ds μ) Q W → r xs H Q
def e1 (g : G1) (a : EX) : EX := fun ρ μ => (a ρ μ).bind fun x μ => g x μ
def e2 (g : G2) (a b : EX) : EX := fun ρ μ => (a ρ μ).bind fun x μ => (b ρ μ).bind fun y μ => g x y μ
def eN (g : Gn) (as : EXs) : EX := fun ρ μ => (as ρ μ).bind fun xs μ => g xs μ
def as0 : EXs := fun _ μ => .ok [] μ
def as1 (a : EX) (as : EXs) : EXs := fun ρ μ => (a ρ μ).bind fun x μ => (as ρ μ).bind fun xs μ => .ok (x :: xs) μ
section
variable {X : Cx} {W : WX} {pos : Pos} {a b : Expr} {xa xb : EX}
theorem pure2 {σ : St} {H : Hp} {Q : VK} {r : R2} {g : G2} {K : Fr} (ok : OpOk K r g) (h : tD K W (e2 g xa xb) σ H Q) : tD K W xa σ H fun x H1 => tD K W xb σ H1 fun y H2 => r x y H2 Q := by
  refine tX_bind (f := fun ρ x μ => (xb ρ μ).bind fun y μ => g x y μ) h fun F α ρ μ v u H1 m s rv o => ?_
  refine ⟨F, α, ρ, μ, m, s, ?_⟩
  have o2 : OutOk (RV K) K F α ((xb ρ μ).bind fun y μ => g v y μ) Q (fun cls dx H' => W cls dx σ H') := o
  cases e : xb ρ μ with
  | ok v2 μ2 =>
    rw [e] at o2
    exact fun u2 F2 α2 H2 g2 m2 r2 => ok F2 α2 μ2 H2 v v2 u u2 Q _ m2 (rv.grow g2) r2 (OutOk.grow g2 o2)
  | raise ex μ2 => rw [e] at o2; exact o2
  | stuck => rw [e] at o2; exact o2
theorem de_op {op : Operator} {r : R2} {g : G2} (ho : OpR X (binaryOp op) r) (ok : OpOk X.K r g) (ha : DE X W a xa) (hb : DE X W b xb) : DE X W (.BinOp a op b pos) (e2 g xa xb) :=
  ⟨PE.of (pe_op ho ha.pe hb.pe) fun σ H Q h => pure2 ok h⟩
theorem de_un {op : UnaryOp} {r : V → Hp → VK → Prop} {g : G1} (ho : UnR X (unaryOp op) r) (ok : UnOk X.K r g) (ha : DE X W a xa) : DE X W (.UnaryOp op a pos) (e1 g xa) :=
  ⟨PE.of (pe_un ho ha.pe) fun σ H Q h => tX_bind (f := fun _ x μ => g x μ) h fun F α ρ μ v u H1 m s rv o => ok F α μ H1 v u Q _ m rv o⟩
theorem de_cmp {op : CmpOp} {r : R2} {g : G2} (ho : OpR X (compareOp op) r) (ok : OpOk X.K r g) (ha : DE X W a xa) (hb : DE X W b xb) (hm : behindInMarks op b = false := by first | rfl | exact nomark _) : DE X W (.Compare a [op] [b] pos) (e2 g xa xb) :=
  ⟨PE.of (pe_cmpR ho ha.pe hb.pe hm) fun σ H Q h => pure2 ok h⟩
theorem da_nil : DA X W [] as0 := ⟨PA.of pa_nil fun σ H Q ⟨F, α, ρ, μ, m, s, o⟩ => OutOk.here (R := RVs X.K) o m rfl⟩
theorem da_cons {e : Expr} {es : List Expr} {x : EX} {xs : EXs} (ha : DE X W e x) (hr : DA X W es xs) (hs : starEach (e :: es) X.env = (false, eval e X.env) :: starEach es X.env := by rfl) : DA X W (e :: es) (as1 x xs) := by
  refine ⟨PA.of (pa_cons ha.pe hr.pa hs) fun σ H Q h => ?_⟩
  refine tX_bind (f := fun ρ x μ => (xs ρ μ).bind fun y μ => .ok (x :: y) μ) h fun F α ρ μ v u H1 m s rv o => ?_
  refine ⟨F, α, ρ, μ, m, s, ?_⟩
  have o2 : OutOk (RVs X.K) X.K F α ((xs ρ μ).bind fun y μ => .ok (v :: y) μ) Q (fun cls dx H' => W cls dx σ H') := o
  cases e : xs ρ μ with
  | ok v2 μ2 =>
    rw [e] at o2
    exact fun u2 F2 α2 H2 g2 m2 r2 => OutOk.here (R := RVs X.K) (OutOk.grow g2 o2) m2 ⟨u, u2, rfl, rv.grow g2, r2⟩
  | raise ex μ2 => rw [e] at o2; exact o2
  | stuck => rw [e] at o2; exact o2
theorem pureN {es : List Expr} {xs : EXs} {σ : St} {H : Hp} {Q : VK} {r : List V → Hp → VK → Prop} {g : Gn} {K : Fr} (ok : CaOk K r g) (h : tD K W (eN g xs) σ H Q) : tDs K W xs σ H fun x H1 => r x H1 Q :=
  tX_bind (f := fun _ x μ => g x μ) h fun F α ρ μ v u H1 m s rv o => ok F α μ H1 v u Q _ m rv o
/-- a built-in function, a built-in type -/
theorem de_callB {x : Str} {p : Pos} {e : Expr} {es : List Expr} {xs : EXs} {id : String} {r : List V → Hp → VK → Prop} {g : Gn} (hc : CallR X (.builtin id) r) (ok : CaOk X.K r g) (hg : Gl X x) (hm : X.mg x = none) (hv : bootBuiltins x = some (.builtin id)) (ha : DA X W (e :: es) xs) (hn : x ≠ "__name__" := by decide) (hdb : (x == ("__debug__" : Str)) = false := by decide)
    (he : starEach (e :: es) X.env = (false, eval e X.env) :: starEach es X.env := by rfl) (hpl : (backTo pos (starEach es X.env)).any (·.1) = false := by rfl) : DE X W (.Call (.Name x p) (e :: es) [] pos) (eN g xs) :=
  ⟨PE.of (pe_callB hc hg hm hv ha.pa hn hdb he hpl) fun σ H Q h => pureN (es := es) ok h⟩
theorem de_callTy {x : Str} {p : Pos} {e : Expr} {es : List Expr} {xs : EXs} {T : String} {r : List V → Hp → VK → Prop} {g : Gn} (hc : CallR X (.type T) r) (ok : CaOk X.K r g) (hg : Gl X x) (hm : X.mg x = none) (hv : bootBuiltins x = some (.type T)) (ha : DA X W (e :: es) xs) (hn : x ≠ "__name__" := by decide) (hdb : (x == ("__debug__" : Str)) = false := by decide)
    (he : starEach (e :: es) X.env = (false, eval e X.env) :: starEach es X.env := by rfl) (hpl : (backTo pos (starEach es X.env)).any (·.1) = false := by rfl) : DE X W (.Call (.Name x p) (e :: es) [] pos) (eN g xs) :=
  ⟨PE.of (pe_callTy hc hg hm hv ha.pa hn hdb he hpl) fun σ H Q h => pureN (es := es) ok h⟩
end
def okD (v : Dat) (μ : List Cel) : Out DV := .ok (.d v) μ
def dats : List DV → Option (List Dat)
  | [] => some []
  | .d x :: r => (dats r).map (x :: ·)
  | .c _ :: _ => none
def eTupD : Gn := fun xs μ => match dats xs with
  | some ds => if ds.length ≤ LIM ∧ blT ds = false then okD (.tup ds) μ else .stuck
  | none => .stuck
def eLstD : Gn := fun xs μ => match dats xs with
  | some ds => if ds.length ≤ LIM then okD (.lst ds) μ else .stuck
  | none => .stuck
/-- a display that makes a cell -/
def eLstC : Gn := fun xs μ => match dats xs with
  | some ds => if ds.length ≤ LIM then .ok (.c μ.length) (μ ++ [.lst ds]) else .stuck
  | none => .stuck
section
variable {K : Fr} {F H : Hp} {α : List Addr} {μ : List Cel}
theorem reps_of : ∀ {ds : List DV} {xs : List V} {es : List Dat}, RepVs K F α ds xs → dats ds = some es → Reps K F es xs
  | [], _, _, h, e => by cases e; exact h
  | .d x :: r, _, _, ⟨u, us, e1, r1, r2⟩, e => by
    subst e1
    obtain ⟨l, e2, e3⟩ := Option.map_eq_some_iff.mp (show (dats r).map (x :: ·) = some _ from e)
    subst e3
    exact ⟨u, us, rfl, r1, reps_of r2 e2⟩
  | .c _ :: _, _, _, _, e => by cases e
theorem lim_line {n : Nat} (h : n ≤ LIM) : n ≤ sizeLine := by rw [sizeLine_eq]; exact h
theorem lim_lt {n : Nat} (h : n < LIM) : n < sizeLine := by rw [sizeLine_eq]; exact h
/-- a new tuple at p -/
theorem out_tup {ds : List Dat} {xs : List V} {Q : VK} {W : XK} (m : Mem K F H α μ) (r : Reps K F ds xs) (hz : ds.length ≤ LIM) (hb : blT ds = false) (o : OutOk (RV K) K F α (okD (.tup ds) μ) Q W) : ∀ p, H p = none → Q (.ref p) (upd H p (.tup xs)) := fun p hp => by
  obtain ⟨m2, g⟩ := m.laid (o := .tup xs) hp
  exact o _ _ _ _ g m2 ⟨hz, p, xs, rfl, ⟨.inl (.inl upd_same), fun q => by rw [hb] at q; cases q⟩, r.le g.f⟩
/-- a new tuple at p, its object known -/
theorem out_tupF {ob : Obj} (hd : ob.dict = none) {ds : List Dat} {xs : List V} {Q : VK} {W : XK} (m : Mem K F H α μ) (r : Reps K F ds xs) (hz : ds.length ≤ LIM) (o : OutOk (RV K) K F α (okD (.tup ds) μ) Q W) : ∀ p, H p = none → Q (.ref p) (upd H p (.frz ob (.tup xs))) := fun p hp => by
  obtain ⟨m2, g⟩ := m.laid (o := .frz ob (.tup xs)) hp
  exact o _ _ _ _ g m2 ⟨hz, p, xs, rfl, ⟨.inl (.inr ⟨ob, upd_same⟩), fun _ => .inl ⟨ob, _, upd_same, hd⟩⟩, r.le g.f⟩
theorem out_lst {ds : List Dat} {xs : List V} {Q : VK} {W : XK} (m : Mem K F H α μ) (r : Reps K F ds xs) (hz : ds.length ≤ LIM) (o : OutOk (RV K) K F α (okD (.lst ds) μ) Q W) : ∀ p, H p = none → Q (.ref p) (upd H p (.lst xs)) := fun p hp => by
  obtain ⟨m2, g⟩ := m.laid (o := .lst xs) hp
  exact o _ _ _ _ g m2 ⟨hz, p, xs, rfl, upd_same, r.le g.f⟩
theorem out_cell {ds : List Dat} {xs : List V} {Q : VK} {W : XK} (m : Mem K F H α μ) (r : Reps K F ds xs) (hz : ds.length ≤ LIM) (o : OutOk (RV K) K F α (.ok (.c μ.length) (μ ++ [.lst ds])) Q W) : ∀ p, H p = none → Q (.ref p) (upd H p (.lst xs)) := fun p hp => by
  obtain ⟨m2, g⟩ := m.cell (p := p) (o := .lst xs) (c := .lst ds) hp ⟨(m.fresh hp).1, hz, xs, upd_same, r⟩
  exact o _ _ _ _ g m2 ⟨p, by rw [← m.len]; simp, rfl⟩
theorem outI {i : Int} {Q : VK} {W : XK} (m : Mem K F H α μ) (o : OutOk (RV K) K F α (okD (.int i) μ) Q W) : Q (.int i) H := OutOk.here (R := RV K) o m rfl
theorem outB {i : Bool} {Q : VK} {W : XK} (m : Mem K F H α μ) (o : OutOk (RV K) K F α (okD (.bl i) μ) Q W) : Q (.bl i) H := OutOk.here (R := RV K) o m rfl
theorem outS {l : List Nat} {Q : VK} {W : XK} (m : Mem K F H α μ) (h : l.length ≤ LIM) (o : OutOk (RV K) K F α (okD (.str l) μ) Q W) : Q (.str (sV l)) H := OutOk.here (R := RV K) o m ⟨h, rfl⟩
theorem outD {v : Dat} {u : V} {Q : VK} {W : XK} (m : Mem K F H α μ) (r : Rep K F v u) (o : OutOk (RV K) K F α (okD v μ) Q W) : Q u H := OutOk.here (R := RV K) o m r
end
section
variable {X : Cx} {W : WX} {pos : Pos} {es : List Expr} {xs : EXs}
theorem de_tup {x1} (h : DA X W es xs) : DE X W (.Tuple es x1 pos) (eN eTupD xs) := by
  refine ⟨PE.of (pe_tup h.pa) fun σ H Q hh => ?_⟩
  refine tX_bind (f := fun _ x μ => eTupD x μ) hh fun F α ρ μ v u H1 m s rv o => ?_
  unfold eTupD at o
  cases e : dats v with
  | none => rw [e] at o; exact o.elim
  | some ds =>
    rw [e] at o
    by_cases hz : ds.length ≤ LIM ∧ blT ds = false
    · simp only [if_pos hz] at o
      have r := reps_of rv e
      exact ⟨by rw [← r.length]; exact lim_line hz.1, out_tup m r hz.1 hz.2 o⟩
    · simp only [if_neg hz] at o; exact o.elim
theorem de_lst (h : DA X W es xs) : DE X W (.List es pos) (eN eLstD xs) := by
  refine ⟨PE.of (pe_lst h.pa) fun σ H Q hh => ?_⟩
  refine tX_bind (f := fun _ x μ => eLstD x μ) hh fun F α ρ μ v u H1 m s rv o => ?_
  unfold eLstD at o
  cases e : dats v with
  | none => rw [e] at o; exact o.elim
  | some ds =>
    rw [e] at o
    by_cases hz : ds.length ≤ LIM
    · simp only [hz, if_true] at o
      have r := reps_of rv e
      exact ⟨by rw [← r.length]; exact lim_line hz, out_lst m r hz o⟩
    · simp only [hz, if_false] at o; exact o.elim
theorem de_lstC (h : DA X W es xs) : DE X W (.List es pos) (eN eLstC xs) := by
  refine ⟨PE.of (pe_lst h.pa) fun σ H Q hh => ?_⟩
  refine tX_bind (f := fun _ x μ => eLstC x μ) hh fun F α ρ μ v u H1 m s rv o => ?_
  unfold eLstC at o
  cases e : dats v with
  | none => rw [e] at o; exact o.elim
  | some ds =>
    rw [e] at o
    by_cases hz : ds.length ≤ LIM
    · simp only [hz, if_true] at o
      have r := reps_of rv e
      exact ⟨by rw [← r.length]; exact lim_line hz, out_cell m r hz o⟩
    · simp only [hz, if_false] at o; exact o.elim
end
def addD : G2
  | .d (.int a), .d (.int b), μ => okD (.int (a + b)) μ
  | .d (.str a), .d (.str b), μ => if a.length + b.length ≤ LIM then okD (.str (a ++ b)) μ else .stuck
  | .d (.tup a), .d (.tup b), μ => if a.length + b.length ≤ LIM ∧ blT (a ++ b) = false then okD (.tup (a ++ b)) μ else .stuck
  | .d (.lst a), .d (.lst b), μ => if a.length + b.length ≤ LIM then okD (.lst (a ++ b)) μ else .stuck
  | .c n, .d (.lst b), μ => (match μ[n]? with
    | some (.lst a) => if a.length + b.length ≤ LIM then okD (.lst (a ++ b)) μ else .stuck
    | _ => .stuck)
  | .d (.lst a), .c n, μ => (match μ[n]? with
    | some (.lst b) => if a.length + b.length ≤ LIM then okD (.lst (a ++ b)) μ else .stuck
    | _ => .stuck)
  | _, _, _ => .stuck
def subD : G2
  | .d (.int a), .d (.int b), μ => okD (.int (a - b)) μ
  | _, _, _ => .stuck
/-- a factor's bound, so written that it does not run on an open number -/
def mulT1 : Int → Bool
  | .ofNat n => Nat.ble n 18446744073709551615
  | .negSucc n => Nat.ble n 18446744073709551614
theorem mulT1_iff (a : Int) : mulT1 a = true ↔ (-(2 ^ 64) < a ∧ a < 2 ^ 64) := by
  cases a with
  | ofNat n =>
    show Nat.ble n 18446744073709551615 = true ↔ _
    rw [Nat.ble_eq]
    have : Int.ofNat n = (n : Int) := rfl
    rw [this]
    omega
  | negSucc n =>
    show Nat.ble n 18446744073709551614 = true ↔ _
    rw [Nat.ble_eq]
    omega
def mulP (a b : Int) : Prop := (-(2 ^ 64) < a ∧ a < 2 ^ 64) ∨ (-(2 ^ 64) < b ∧ b < 2 ^ 64)
theorem mulP_iff (a b : Int) : (mulT1 a || mulT1 b) = true ↔ mulP a b := by
  rw [Bool.or_eq_true, mulT1_iff, mulT1_iff]
  rfl
instance (a b : Int) : Decidable (mulP a b) := decidable_of_iff _ (mulP_iff a b)
def mulD : G2
  | .d (.int a), .d (.int b), μ => if mulP a b then okD (.int (a * b)) μ else .stuck
  | .d (.lst a), .d (.int b), μ => if -(2 ^ 62) < b ∧ b < 2 ^ 62 ∧ a.length * b.toNat ≤ LIM then okD (.lst (List.replicate b.toNat a).flatten) μ else .stuck
  | _, _, _ => .stuck
def fdivD : G2
  | .d (.int a), .d (.int b), μ => if 0 < b ∧ b < 1073741824 then okD (.int (a / b)) μ else .stuck
  | _, _, _ => .stuck
def modD : G2
  | .d (.int a), .d (.int b), μ => if 0 < b then okD (.int (a % b)) μ else .stuck
  | _, _, _ => .stuck
def powD : G2
  | .d (.int a), .d (.int b), μ => if 0 ≤ b ∧ b ≤ 1000000 ∧ a.natAbs < 2 ^ 64 then okD (.int (a ^ b.toNat)) μ else .stuck
  | _, _, _ => .stuck
def negD : G1
  | .d (.int a), μ => okD (.int (-a)) μ
  | _, _ => .stuck
section
variable {X : Cx} {K : Fr}
theorem sV_app (a b : List Nat) : sV a ++ sV b = sV (a ++ b) := by
  show Str.append _ _ = _
  unfold Str.append sV
  simp
theorem sV_len (a : List Nat) : (sV a).length = a.length := by
  unfold sV Str.length
  simp
theorem sV_cps (a : List Nat) : (sV a).cps.toList = a := by
  unfold sV
  simp
theorem sV_inj {a b : List Nat} (h : sV a = sV b) : a = b := by
  have := congrArg (fun s : Str => s.cps.toList) h
  simpa [sV_cps] using this
theorem op_addX : OpR X (binaryOp .Add) (fun x y H Q => (rI0 (fun i j => .int (i + j))) x y H Q ∨ (∃ i j, x = .str i ∧ y = .str j ∧ i.length + j.length ≤ sizeLine ∧ Q (.str (i ++ j)) H) ∨ rCatA X.K x y H Q ∨ rCat x y H Q) := op_add.or (op_add_str.or (op_catA.or op_cat))
theorem reps_nil_iff {F : Hp} {ds : List Dat} {xs : List V} (h : Reps K F ds xs) : xs = [] ↔ ds = [] := by
  have := h.length
  constructor
  · intro e; subst e; simpa using this
  · intro e; subst e; cases xs with
    | nil => rfl
    | cons _ _ => simp at this
theorem ok_add : OpOk K (fun x y H Q => (rI0 (fun i j => .int (i + j))) x y H Q ∨ (∃ i j, x = .str i ∧ y = .str j ∧ i.length + j.length ≤ sizeLine ∧ Q (.str (i ++ j)) H) ∨ rCatA K x y H Q ∨ rCat x y H Q) addD := by
  intro F α μ H d1 d2 x y Q W m r1 r2 o
  unfold addD at o
  split at o
  · cases r1; cases r2
    exact .inl ⟨_, _, rfl, rfl, outI m o⟩
  · rename_i a b
    obtain ⟨_, rfl⟩ := r1
    obtain ⟨_, rfl⟩ := r2
    split at o
    · rename_i hz
      refine .inr (.inl ⟨_, _, rfl, rfl, by rw [sV_len, sV_len]; exact lim_line hz, ?_⟩)
      rw [sV_app]
      exact outD (v := .str (a ++ b)) m ⟨by rw [List.length_append]; exact hz, rfl⟩ o
    · exact o.elim
  · rename_i a b
    obtain ⟨za, p, xs, rfl, hx, ra⟩ := r1
    obtain ⟨zb, q, ys, rfl, hy, rb⟩ := r2
    split at o
    · rename_i hz
      obtain ⟨hz, hb⟩ := hz
      have hl : (a ++ b).length ≤ LIM := by rw [List.length_append]; exact hz
      refine .inr (.inr (.inl ⟨p, q, xs, ys, rfl, rfl, sqT_le m.fz hx, sqT_le m.fz hy, by rw [← ra.length, ← rb.length]; exact lim_line hz, fun e => ?_, fun e1 e2 => ?_, fun e1 e2 => out_tup m (ra.append rb) hl hb o⟩))
      · have e' := (reps_nil_iff ra).mp e
        subst e'
        exact outD (v := .tup b) m ⟨zb, q, ys, rfl, hy, rb⟩ o
      · have e' := (reps_nil_iff rb).mp e2
        subst e'
        rw [List.append_nil] at o
        exact outD (v := .tup a) m ⟨za, p, xs, rfl, hx, ra⟩ o
    · exact o.elim
  · rename_i a b
    obtain ⟨za, p, xs, rfl, hx, ra⟩ := r1
    obtain ⟨zb, q, ys, rfl, hy, rb⟩ := r2
    split at o
    · rename_i hz
      have hl : (a ++ b).length ≤ LIM := by rw [List.length_append]; exact hz
      exact .inr (.inr (.inr ⟨p, q, xs, ys, rfl, rfl, m.fz _ _ hx, m.fz _ _ hy, by rw [← ra.length, ← rb.length]; exact lim_line hz, out_lst m (ra.append rb) hl o⟩))
    · exact o.elim
  · rename_i n b
    obtain ⟨p, hp, rfl⟩ := r1
    obtain ⟨zb, q, ys, rfl, hy, rb⟩ := r2
    cases qc : μ[n]? with
    | none => rw [qc] at o; exact o.elim
    | some cl =>
      rw [qc] at o
      cases cl with
      | ins _ _ => exact o.elim
      | dead => exact o.elim
      | lv _ => exact o.elim
      | lst a =>
        simp only at o
        obtain ⟨h0, z, xs, hx, ra⟩ := m.ok n _ p qc hp
        split at o
        · rename_i hz
          have hl : (a ++ b).length ≤ LIM := by rw [List.length_append]; exact hz
          exact .inr (.inr (.inr ⟨p, q, xs, ys, rfl, rfl, hx, m.fz _ _ hy, by rw [← ra.length, ← rb.length]; exact lim_line hz, out_lst m (ra.append rb) hl o⟩))
        · exact o.elim
  · rename_i a n
    obtain ⟨za, p, xs, rfl, hx, ra⟩ := r1
    obtain ⟨q, hq, rfl⟩ := r2
    cases qc : μ[n]? with
    | none => rw [qc] at o; exact o.elim
    | some cl =>
      rw [qc] at o
      cases cl with
      | ins _ _ => exact o.elim
      | dead => exact o.elim
      | lv _ => exact o.elim
      | lst b =>
        simp only at o
        obtain ⟨h0, z, ys, hy, rb⟩ := m.ok n _ q qc hq
        split at o
        · rename_i hz
          have hl : (a ++ b).length ≤ LIM := by rw [List.length_append]; exact hz
          exact .inr (.inr (.inr ⟨p, q, xs, ys, rfl, rfl, m.fz _ _ hx, hy, by rw [← ra.length, ← rb.length]; exact lim_line hz, out_lst m (ra.append rb) hl o⟩))
        · exact o.elim
  · exact o.elim
theorem ok_sub : OpOk K (rI0 fun i j => .int (i - j)) subD := by
  intro F α μ H d1 d2 x y Q W m r1 r2 o
  unfold subD at o
  split at o
  · cases r1; cases r2
    exact ⟨_, _, rfl, rfl, outI m o⟩
  · exact o.elim
theorem op_mulX : OpR X (binaryOp .Mult) (fun x y H Q => (rI CMul (fun i j => .int (i * j))) x y H Q ∨ rRep x y H Q) := op_mul.or op_rep
theorem ok_mul : OpOk K (fun x y H Q => (rI CMul (fun i j => .int (i * j))) x y H Q ∨ rRep x y H Q) mulD := by
  intro F α μ H d1 d2 x y Q W m r1 r2 o
  unfold mulD at o
  split at o
  · cases r1; cases r2
    split at o
    · rename_i hc
      exact .inl ⟨_, _, rfl, rfl, hc, outI m o⟩
    · exact o.elim
  · rename_i a b
    obtain ⟨za, p, xs, rfl, hx, ra⟩ := r1
    cases r2
    split at o
    · rename_i hc
      obtain ⟨h1, h2, h3⟩ := hc
      have rr : ∀ n, Reps K F (List.replicate n a).flatten (List.replicate n xs).flatten := fun n => by
        induction n with
        | zero => exact rfl
        | succ n ih =>
          rw [List.replicate_succ, List.replicate_succ, List.flatten_cons, List.flatten_cons]
          exact ra.append ih
      have hl : (List.replicate b.toNat a).flatten.length ≤ LIM := by
        rw [List.length_flatten, List.map_replicate, List.sum_replicate_nat, Nat.mul_comm]
        exact h3
      exact .inr ⟨p, b, xs, rfl, rfl, m.fz _ _ hx, by omega, by omega, by rw [← ra.length]; exact lim_line h3, out_lst m (rr _) hl o⟩
    · exact o.elim
  · exact o.elim
theorem ok_fdiv : OpOk K (rI CDiv fun i j => .int (i / j)) fdivD := by
  intro F α μ H d1 d2 x y Q W m r1 r2 o
  unfold fdivD at o
  split at o
  · cases r1; cases r2
    split at o
    · rename_i hc
      exact ⟨_, _, rfl, rfl, hc, outI m o⟩
    · exact o.elim
  · exact o.elim
theorem ok_mod : OpOk K (rI (fun _ j => 0 < j) fun i j => .int (i % j)) modD := by
  intro F α μ H d1 d2 x y Q W m r1 r2 o
  unfold modD at o
  split at o
  · cases r1; cases r2
    split at o
    · rename_i hc
      exact ⟨_, _, rfl, rfl, hc, outI m o⟩
    · exact o.elim
  · exact o.elim
theorem ok_pow : OpOk K (rI CPow fun i j => .int (i ^ j.toNat)) powD := by
  intro F α μ H d1 d2 x y Q W m r1 r2 o
  unfold powD at o
  split at o
  · cases r1; cases r2
    split at o
    · rename_i hc
      exact ⟨_, _, rfl, rfl, hc, outI m o⟩
    · exact o.elim
  · exact o.elim
variable {W : WX} {pos : Pos} {a b : Expr} {xa xb : EX}
theorem de_add (ha : DE X W a xa) (hb : DE X W b xb) : DE X W (.BinOp a .Add b pos) (e2 addD xa xb) := de_op op_addX ok_add ha hb
theorem de_sub (ha : DE X W a xa) (hb : DE X W b xb) : DE X W (.BinOp a .Sub b pos) (e2 subD xa xb) := de_op op_sub ok_sub ha hb
theorem de_mul (ha : DE X W a xa) (hb : DE X W b xb) : DE X W (.BinOp a .Mult b pos) (e2 mulD xa xb) := de_op op_mulX ok_mul ha hb
theorem de_fdiv (ha : DE X W a xa) (hb : DE X W b xb) : DE X W (.BinOp a .FloorDiv b pos) (e2 fdivD xa xb) := de_op op_fdiv ok_fdiv ha hb
theorem de_mod (ha : DE X W a xa) (hb : DE X W b xb) : DE X W (.BinOp a .Mod b pos) (e2 modD xa xb) := de_op op_mod ok_mod ha hb
theorem de_pow (ha : DE X W a xa) (hb : DE X W b xb) : DE X W (.BinOp a .Pow b pos) (e2 powD xa xb) := de_op op_pow ok_pow ha hb
end
mutual
/-- == of data -/
def eqD : Dat → Dat → Bool
  | .non, .non => true
  | .bl a, .bl b => a == b
  | .bl a, .int j => (if a then 1 else 0) == j
  | .int i, .bl b => i == (if b then 1 else 0)
  | .int i, .int j => i == j
  | .str x, .str y => x == y
  | .lst xs, .lst ys => eqDs xs ys
  | .tup xs, .tup ys => eqDs xs ys
  | _, _ => false
def eqDs : List Dat → List Dat → Bool
  | [], [] => true
  | x :: xs, y :: ys => eqD x y && eqDs xs ys
  | _, _ => false
end
mutual
/-- data without instances, at most n deep -/
def shal : Nat → Dat → Bool
  | _, .non => true
  | _, .bl _ => true
  | _, .int _ => true
  | _, .str s => s.all fun c => decide (c < 128)
  | 0, .tup _ => false
  | 0, .lst _ => false
  | n + 1, .tup ds => shals n ds
  | n + 1, .lst ds => shals n ds
  | _, _ => false
def shals : Nat → List Dat → Bool
  | _, [] => true
  | n, d :: ds => shal n d && shals n ds
end
mutual
def pyD : Dat → PyData
  | .non => .none
  | .bl b => .bool b
  | .int i => .int i
  | .str s => .str (sV s)
  | .tup ds => .tuple (pyDs ds)
  | .lst ds => .list (pyDs ds)
  | _ => .none
def pyDs : List Dat → List PyData
  | [] => []
  | d :: ds => pyD d :: pyDs ds
end
def eqB : G2
  | .d a, .d b, μ => if shal 60 a && shal 60 b then okD (.bl (eqD a b)) μ else .stuck
  | _, _, _ => .stuck
def neB : G2
  | .d a, .d b, μ => if shal 60 a && shal 60 b then okD (.bl (!eqD a b)) μ else .stuck
  | _, _, _ => .stuck
section
variable {K : Fr} {F : Hp}
mutual
theorem dp_of {H : Hp} (e : Le F H) : ∀ (n : Nat) (d : Dat) (v : V), shal n d = true → Rep K F d v → Dp K H v (pyD d)
  | _, .non, _, _, r => by cases r; exact .non
  | _, .bl b, _, _, r => by cases r; exact .bl b
  | _, .int i, _, _, r => by cases r; exact .int i
  | _, .str s, _, _, ⟨_, r⟩ => by cases r; exact .str (sV s)
  | 0, .tup _, _, h, _ => by simp [shal] at h
  | 0, .lst _, _, h, _ => by simp [shal] at h
  | n + 1, .tup ds, _, h, ⟨_, a, xs, e1, h2, r⟩ => by
    subst e1
    exact .tup (sqT_le e h2) (dps_of e n ds xs (by simpa [shal] using h) r)
  | n + 1, .lst ds, _, h, ⟨_, a, xs, e1, h2, r⟩ => by
    subst e1
    exact .lst (SqL.of (e _ _ h2)) (dps_of e n ds xs (by simpa [shal] using h) r)
  | n, .ins _ _, _, h, _ => by cases n <;> simp [shal] at h
  | n, .dic, _, h, _ => by cases n <;> simp [shal] at h
  | n, .fl _, _, h, _ => by cases n <;> simp [shal] at h
theorem dps_of {H : Hp} (e : Le F H) : ∀ (n : Nat) (ds : List Dat) (vs : List V), shals n ds = true → Reps K F ds vs → DpAll K H vs (pyDs ds)
  | _, [], _, _, r => by cases (show _ = [] from r); exact .nil
  | n, d :: ds, _, h, ⟨x, r, e1, r1, r2⟩ => by
    subst e1
    have h' : shal n d = true ∧ shals n ds = true := by simpa [shals] using h
    exact .cons (dp_of e n d x h'.1 r1) (dps_of e n ds r h'.2 r2)
end
mutual
theorem eqv_of : ∀ (a b : Dat) (n m : Nat), shal n a = true → shal m b = true → PyData.eqv (pyD a) (pyD b) = eqD a b
  | .non, b, n, m, ha, hb => by cases b <;> first | rfl | (cases m <;> simp [shal] at hb)
  | .bl x, b, n, m, ha, hb => by cases b <;> first | rfl | (cases m <;> simp [shal] at hb)
  | .int x, b, n, m, ha, hb => by cases b <;> first | rfl | (cases m <;> simp [shal] at hb)
  | .str x, b, n, m, ha, hb => by
    cases b <;> first | rfl | (cases m <;> simp [shal] at hb; done) | skip
    rename_i y
    show (sV x == sV y) = (x == y)
    by_cases h : x = y
    · subst h; simp
    · have h2 : sV x ≠ sV y := fun e => h (sV_inj e)
      rw [beq_eq_false_iff_ne.mpr h, beq_eq_false_iff_ne.mpr h2]
  | .tup xs, b, n, m, ha, hb => by
    cases b <;> first | rfl | (cases m <;> simp [shal] at hb; done) | skip
    rename_i ys
    cases n with
    | zero => simp [shal] at ha
    | succ n => cases m with
      | zero => simp [shal] at hb
      | succ m => exact eqvs_of xs ys n m (by simpa [shal] using ha) (by simpa [shal] using hb)
  | .lst xs, b, n, m, ha, hb => by
    cases b <;> first | rfl | (cases m <;> simp [shal] at hb; done) | skip
    rename_i ys
    cases n with
    | zero => simp [shal] at ha
    | succ n => cases m with
      | zero => simp [shal] at hb
      | succ m => exact eqvs_of xs ys n m (by simpa [shal] using ha) (by simpa [shal] using hb)
  | .ins _ _, _, n, _, h, _ => by cases n <;> simp [shal] at h
  | .dic, _, n, _, h, _ => by cases n <;> simp [shal] at h
  | .fl _, _, n, _, h, _ => by cases n <;> simp [shal] at h
theorem eqvs_of : ∀ (a b : List Dat) (n m : Nat), shals n a = true → shals m b = true → PyData.eqvAll (pyDs a) (pyDs b) = eqDs a b
  | [], [], _, _, _, _ => rfl
  | [], _ :: _, _, _, _, _ => rfl
  | _ :: _, [], _, _, _, _ => rfl
  | x :: xs, y :: ys, n, m, ha, hb => by
    have h1 : shal n x = true ∧ shals n xs = true := by simpa [shals] using ha
    have h2 : shal m y = true ∧ shals m ys = true := by simpa [shals] using hb
    show (PyData.eqv (pyD x) (pyD y) && PyData.eqvAll (pyDs xs) (pyDs ys)) = (eqD x y && eqDs xs ys)
    rw [eqv_of x y n m h1.1 h2.1, eqvs_of xs ys n m h1.2 h2.2]
end
mutual
theorem lay_of : ∀ (d : Dat) (n : Nat), shal n d = true → (pyD d).canLay0 = true ∧ (pyD d).depth ≤ n + 1
  | .non, n, _ => ⟨rfl, by simp [pyD, PyData.depth]⟩
  | .bl _, n, _ => ⟨rfl, by simp [pyD, PyData.depth]⟩
  | .int _, n, _ => ⟨rfl, by simp [pyD, PyData.depth]⟩
  | .str s, n, h => ⟨by
      have h' : ∀ c ∈ s, c < 128 := by simpa [shal] using h
      show PyData.strOk (sV s) = true
      unfold PyData.strOk
      rw [← Array.all_toList, sV_cps, List.all_eq_true]
      exact fun c hc => decide_eq_true (Nat.lt_trans (h' c hc) (by decide)), by simp [pyD, PyData.depth]⟩
  | .tup ds, n, h => by
    cases n with
    | zero => simp [shal] at h
    | succ n =>
      obtain ⟨h1, h2⟩ := lays_of ds n (by simpa [shal] using h)
      exact ⟨by simpa [pyD, PyData.canLay0] using h1, by simp [pyD, PyData.depth]; omega⟩
  | .lst ds, n, h => by
    cases n with
    | zero => simp [shal] at h
    | succ n =>
      obtain ⟨h1, h2⟩ := lays_of ds n (by simpa [shal] using h)
      exact ⟨by simpa [pyD, PyData.canLay0] using h1, by simp [pyD, PyData.depth]; omega⟩
  | .ins _ _, n, h => by cases n <;> simp [shal] at h
  | .dic, n, h => by cases n <;> simp [shal] at h
  | .fl _, n, h => by cases n <;> simp [shal] at h
theorem lays_of : ∀ (ds : List Dat) (n : Nat), shals n ds = true → PyData.canLayAll0 (pyDs ds) = true ∧ PyData.depthAll (pyDs ds) ≤ n + 1
  | [], n, _ => ⟨rfl, by simp [pyDs, PyData.depthAll]⟩
  | d :: ds, n, h => by
    have h1 : shal n d = true ∧ shals n ds = true := by simpa [shals] using h
    obtain ⟨a1, a2⟩ := lay_of d n h1.1
    obtain ⟨b1, b2⟩ := lays_of ds n h1.2
    exact ⟨by simp [pyDs, PyData.canLayAll0, a1, b1], by simp [pyDs, PyData.depthAll]; omega⟩
end
end
section
variable {X : Cx} {K : Fr}
theorem shaped_of {d : Dat} (h : shal 60 d = true) : SeqAt.shaped (pyD d) = true := by
  obtain ⟨h1, h2⟩ := lay_of d 60 h
  unfold SeqAt.shaped
  rw [h1, Bool.true_and]
  exact decide_eq_true (by omega)
theorem ok_eq : OpOk K (rEqD K) eqB := by
  intro F α μ H d1 d2 x y Q W m r1 r2 o
  unfold eqB at o
  split at o
  · rename_i a b
    split at o
    · rename_i h
      obtain ⟨h1, h2⟩ := Bool.and_eq_true_iff.mp h
      refine ⟨pyD a, pyD b, dp_of m.fz 60 a x h1 r1, dp_of m.fz 60 b y h2 r2, shaped_of h1, shaped_of h2, ?_⟩
      rw [eqv_of a b 60 60 h1 h2]
      exact outB m o
    · exact o.elim
  · exact o.elim
theorem ok_ne : OpOk K (rNeD K) neB := by
  intro F α μ H d1 d2 x y Q W m r1 r2 o
  unfold neB at o
  split at o
  · rename_i a b
    split at o
    · rename_i h
      obtain ⟨h1, h2⟩ := Bool.and_eq_true_iff.mp h
      refine ⟨pyD a, pyD b, dp_of m.fz 60 a x h1 r1, dp_of m.fz 60 b y h2 r2, shaped_of h1, shaped_of h2, ?_⟩
      rw [eqv_of a b 60 60 h1 h2]
      exact outB m o
    · exact o.elim
  · exact o.elim
/-- < of ints, of texts -/
def ltL (a b : List Nat) : Bool := decide (a < b)
def ltD : G2
  | .d (.int a), .d (.int b), μ => okD (.bl (decide (a < b))) μ
  | .d (.str a), .d (.str b), μ => okD (.bl (ltL a b)) μ
  | _, _, _ => .stuck
def leD : G2
  | .d (.int a), .d (.int b), μ => okD (.bl (decide (a ≤ b))) μ
  | .d (.str a), .d (.str b), μ => okD (.bl (!ltL b a)) μ
  | _, _, _ => .stuck
def gtD : G2
  | .d (.int a), .d (.int b), μ => okD (.bl (decide (b < a))) μ
  | _, _, _ => .stuck
def geD : G2
  | .d (.int a), .d (.int b), μ => okD (.bl (decide (b ≤ a))) μ
  | _, _, _ => .stuck
def isNonD : Dat → Bool
  | .non => true
  | _ => false
def isN : G2
  | .d a, .d .non, μ => okD (.bl (isNonD a)) μ
  | .c _, .d .non, μ => okD (.bl false) μ
  | _, _, _ => .stuck
def notN : G2
  | .d a, .d .non, μ => okD (.bl (!isNonD a)) μ
  | .c _, .d .non, μ => okD (.bl true) μ
  | _, _, _ => .stuck
abbrev rLtX : R2 := fun x y H Q => (rI0 (fun i j => .bl (decide (i < j)))) x y H Q ∨ (∃ i j, x = .str i ∧ y = .str j ∧ Q (.bl (decide (i.cps.toList < j.cps.toList))) H)
abbrev rLeX : R2 := fun x y H Q => (rI0 (fun i j => .bl (decide (i ≤ j)))) x y H Q ∨ (∃ i j, x = .str i ∧ y = .str j ∧ Q (.bl (!decide (j.cps.toList < i.cps.toList))) H)
theorem op_ltX : OpR X (compareOp .Lt) rLtX := op_lt.or op_lt_str
theorem op_leX : OpR X (compareOp .LtE) rLeX := op_le.or op_le_str
theorem ok_lt : OpOk K rLtX ltD := by
  intro F α μ H d1 d2 x y Q W m r1 r2 o
  unfold ltD at o
  split at o
  · cases r1; cases r2
    exact .inl ⟨_, _, rfl, rfl, outB m o⟩
  · rename_i a b
    obtain ⟨_, rfl⟩ := r1
    obtain ⟨_, rfl⟩ := r2
    refine .inr ⟨_, _, rfl, rfl, ?_⟩
    rw [sV_cps, sV_cps]
    exact outB m o
  · exact o.elim
theorem ok_le : OpOk K rLeX leD := by
  intro F α μ H d1 d2 x y Q W m r1 r2 o
  unfold leD at o
  split at o
  · cases r1; cases r2
    exact .inl ⟨_, _, rfl, rfl, outB m o⟩
  · rename_i a b
    obtain ⟨_, rfl⟩ := r1
    obtain ⟨_, rfl⟩ := r2
    refine .inr ⟨_, _, rfl, rfl, ?_⟩
    rw [sV_cps, sV_cps]
    exact outB m o
  · exact o.elim
theorem ok_gt : OpOk K (rI0 fun i j => .bl (decide (j < i))) gtD := by
  intro F α μ H d1 d2 x y Q W m r1 r2 o
  unfold gtD at o
  split at o
  · cases r1; cases r2
    exact ⟨_, _, rfl, rfl, outB m o⟩
  · exact o.elim
theorem ok_ge : OpOk K (rI0 fun i j => .bl (decide (j ≤ i))) geD := by
  intro F α μ H d1 d2 x y Q W m r1 r2 o
  unfold geD at o
  split at o
  · cases r1; cases r2
    exact ⟨_, _, rfl, rfl, outB m o⟩
  · exact o.elim
theorem rep_non {F : Hp} : ∀ {d : Dat} {v : V}, Rep K F d v → decide (v = V.non) = isNonD d
  | .non, _, r => by cases r; rfl
  | .bl _, _, r => by cases r; rfl
  | .int _, _, r => by cases r; rfl
  | .str _, _, ⟨_, r⟩ => by cases r; rfl
  | .tup _, _, ⟨_, _, _, r, _⟩ => by cases r; rfl
  | .lst _, _, ⟨_, _, _, r, _⟩ => by cases r; rfl
  | .fl _, _, ⟨_, _, _, r, _⟩ => by cases r; rfl
  | .cls _, _, r => by cases (show _ = _ from r); rfl
  | .ins _ _, _, ⟨_, _, _, r, _⟩ => by cases r; rfl
  | .dic, _, ⟨_, r, _⟩ => by cases r; rfl
theorem ok_isN : OpOk K (fun x y H Q => y = .non ∧ Q (.bl (decide (x = .non))) H) isN := by
  intro F α μ H d1 d2 x y Q W m r1 r2 o
  unfold isN at o
  split at o
  · cases r2
    refine ⟨rfl, ?_⟩
    rw [rep_non (show Rep K F _ x from r1)]
    exact outB m o
  · cases r2
    obtain ⟨a, _, rfl⟩ := r1
    exact ⟨rfl, outB m o⟩
  · exact o.elim
theorem ok_notN : OpOk K (fun x y H Q => y = .non ∧ Q (.bl (!decide (x = .non))) H) notN := by
  intro F α μ H d1 d2 x y Q W m r1 r2 o
  unfold notN at o
  split at o
  · rename_i a
    cases r2
    refine ⟨rfl, ?_⟩
    rw [rep_non (show Rep K F _ x from r1)]
    exact outB m o
  · cases r2
    obtain ⟨a, _, rfl⟩ := r1
    exact ⟨rfl, outB m o⟩
  · exact o.elim
variable {W : WX} {pos : Pos} {a b c : Expr} {xa xb xc : EX}
theorem de_eq (hu : X.A.units + 64 < cLine) (ha : DE X W a xa) (hb : DE X W b xb) : DE X W (.Compare a [.Eq] [b] pos) (e2 eqB xa xb) := de_cmp (op_eqD hu) ok_eq ha hb
theorem de_ne (hu : X.A.units + 64 < cLine) (ha : DE X W a xa) (hb : DE X W b xb) : DE X W (.Compare a [.NotEq] [b] pos) (e2 neB xa xb) := de_cmp (op_neD hu) ok_ne ha hb
theorem de_le (ha : DE X W a xa) (hb : DE X W b xb) : DE X W (.Compare a [.LtE] [b] pos) (e2 leD xa xb) := de_cmp op_leX ok_le ha hb
theorem de_is (ha : DE X W a xa) (hb : DE X W b xb) : DE X W (.Compare a [.Is] [b] pos) (e2 isN xa xb) := de_cmp op_isN ok_isN ha hb
end
end DL
set_option Elab.async false
set_option linter.all false
set_option maxRecDepth 100000
set_option maxHeartbeats 4000000
namespace DL
open PySem PySem.Spec PyProof.Rows L2
def truD : DV → List Cel → Option Bool
  | .d .non, _ => some false
  | .d (.bl b), _ => some b
  | .d (.int i), _ => some (i != 0)
  | .d (.str s), _ => some (!s.isEmpty)
  | .d (.tup ds), _ => some (!ds.isEmpty)
  | .d (.lst ds), _ => some (!ds.isEmpty)
  | .d (.fl ds), _ => some (!ds.isEmpty)
  | .d .dic, _ => some false
  | .c n, μ => (match μ[n]? with
    | some (.lst ds) => some (!ds.isEmpty)
    | _ => none)
  | _, _ => none
def tTru (a : EX) : TX := fun ρ μ => (a ρ μ).bind fun x μ => match truD x μ with
  | some b => .ok b μ
  | none => .stuck
def tBool (a : EX) : TX := fun ρ μ => (a ρ μ).bind fun x μ => match x with
  | .d (.bl b) => .ok b μ
  | _ => .stuck
def tAndX (a b : TX) : TX := fun ρ μ => (a ρ μ).bind fun x μ => if x then b ρ μ else .ok false μ
def tOrX (a b : TX) : TX := fun ρ μ => (a ρ μ).bind fun x μ => if x then .ok true μ else b ρ μ
def tNotX (a : TX) : TX := fun ρ μ => (a ρ μ).bind fun x μ => .ok (!x) μ
def eAnd (a b : EX) : EX := fun ρ μ => (a ρ μ).bind fun x μ => match truD x μ with
  | some true => b ρ μ
  | some false => .ok x μ
  | none => .stuck
def eOr (a b : EX) : EX := fun ρ μ => (a ρ μ).bind fun x μ => match truD x μ with
  | some false => b ρ μ
  | some true => .ok x μ
  | none => .stuck
def eNot (a : EX) : EX := fun ρ μ => (a ρ μ).bind fun x μ => match truD x μ with
  | some b => .ok (.d (.bl (!b))) μ
  | none => .stuck
def eIf (c : TX) (a b : EX) : EX := fun ρ μ => (c ρ μ).bind fun x μ => if x then a ρ μ else b ρ μ
def eChain (g g' : G2) (a b c : EX) : EX := fun ρ μ => (a ρ μ).bind fun x μ => (b ρ μ).bind fun y μ => (g x y μ).bind fun z μ => match z with
  | .d (.bl true) => (c ρ μ).bind fun w μ => g' y w μ
  | .d (.bl false) => .ok (.d (.bl false)) μ
  | _ => .stuck
section
variable {K : Fr} {F H : Hp} {α : List Addr} {μ : List Cel}
theorem reps_empty {F : Hp} {ds : List Dat} {xs : List V} (h : Reps K F ds xs) : (!ds.isEmpty) = !xs.isEmpty := by
  cases ds with
  | nil => cases (show xs = [] from h); rfl
  | cons d ds => obtain ⟨x, r, rfl, _⟩ := h; rfl
theorem str_ne0 (s : List Nat) : (!s.isEmpty) = (((sV s).length : Int) != 0) := by
  rw [sV_len]
  cases s with
  | nil => rfl
  | cons a s =>
    show true = _
    symm
    rw [bne_iff_ne]
    simp only [List.length_cons]
    omega
theorem tru_of (m : Mem K F H α μ) : ∀ {d : DV} {x : V} {b : Bool}, RepV K F α d x → truD d μ = some b → TruV K x H b
  | .d .non, _, _, r, e => by cases r; cases e; exact rfl
  | .d (.bl _), _, _, r, e => by cases r; cases e; exact rfl
  | .d (.int _), _, _, r, e => by cases r; cases e; exact rfl
  | .d (.str s), _, _, ⟨h, r⟩, e => by cases r; cases e; exact ⟨by rw [sV_len]; exact lim_line h, str_ne0 s⟩
  | .d (.tup ds), _, _, ⟨_, a, xs, r, h, rr⟩, e => by cases r; cases e; exact .inr (.inl ⟨xs, sqT_le m.fz h, reps_empty rr⟩)
  | .d (.lst ds), _, _, ⟨_, a, xs, r, h, rr⟩, e => by cases r; cases e; exact .inl ⟨xs, SqL.of (m.fz _ _ h), reps_empty rr⟩
  | .d (.fl ds), _, _, ⟨_, a, xs, r, h, rr⟩, e => by cases r; cases e; exact .inl ⟨xs, sqL_le m.fz h, reps_empty rr⟩
  | .d .dic, _, _, ⟨a, r, h⟩, e => by cases r; cases e; exact .inr (.inr ⟨[], m.fz _ _ h, rfl⟩)
  | .d (.ins _ _), _, _, _, e => by cases e
  | .c n, _, b, ⟨a, h, r⟩, e => by
    cases r
    have e' : (match μ[n]? with
      | some (.lst ds) => some (!ds.isEmpty)
      | _ => none) = some b := e
    cases q : μ[n]? with
    | none => rw [q] at e'; cases e'
    | some c =>
      rw [q] at e'
      cases c with
      | lst ds =>
        obtain ⟨_, _, xs, h2, rr⟩ := m.ok n _ a q h
        have e2 : (!ds.isEmpty) = b := Option.some.inj e'
        exact .inl ⟨xs, SqL.of h2, by rw [← e2]; exact reps_empty rr⟩
      | ins _ _ => cases e'
      | dead => cases e'
      | lv _ => cases e'
end
structure DW (X : Cx) (W : WX) (e : Expr) (x : TX) : Prop where
  pw : PW X e (tDT X.K W x)
theorem PW.of {X : Cx} {e : Expr} {t t' : TT} (h : PW X e t) (i : ∀ σ H Q, t' σ H Q → t σ H Q) : PW X e t' := ⟨fun wh pins s σ H Q I hw => h.run wh pins s σ H Q I (i σ H Q hw)⟩
section
variable {X : Cx} {W : WX} {pos : Pos} {a b c : Expr} {xa xb xc : EX} {ta tb : TX} {rest : List Expr}
theorem dt_val (h : DE X W a xa) (he : ∀ whole, isTrue a X.env whole = (do let v ← whole; standAt a.pos; holding [v] (truthy v)) := by intro _; rfl) : DT X W a (tTru xa) := by
  refine ⟨PT.of (pt_truth h.pe he) fun σ H Q hh => ?_⟩
  refine tX_bind (f := fun _ x μ => match truD x μ with
    | some b => .ok b μ
    | none => .stuck) hh fun F α ρ μ v u H1 m s rv o => ?_
  cases e : truD v μ with
  | none => simp only [e] at o; exact o.elim
  | some k =>
    simp only [e] at o
    exact ⟨k, tru_of m rv e, OutOk.here (R := RB) o m rfl⟩
theorem dt_bool {op : CmpOp} {x : EX} {cs : List Expr} {t : TE} {ops : List CmpOp} (h : PT X (.Compare a ops cs pos) (tTest t)) (i : ∀ σ H (Q : VK), tD X.K W x σ H Q → t σ H Q) : DT X W (.Compare a ops cs pos) (tBool x) := by
  refine ⟨PT.of h fun σ H Q hh => i σ H _ ?_⟩
  refine tX_bind (f := fun _ x μ => match x with
    | .d (.bl b) => .ok b μ
    | _ => .stuck) hh fun F α ρ μ v u H1 m s rv o => ?_
  split at o
  · cases rv
    exact ⟨_, rfl, OutOk.here (R := RB) o m rfl⟩
  · exact o.elim
theorem dt_cmp {op : CmpOp} {r : R2} {g : G2} (ho : OpR X (compareOp op) r) (ok : OpOk X.K r g) (ha : DE X W a xa) (hb : DE X W b xb) (hm : behindInMarks op b = false := by first | rfl | exact nomark _) : DT X W (.Compare a [op] [b] pos) (tBool (e2 g xa xb)) :=
  dt_bool (op := op) (pt_cmpR ho ha.pe hb.pe hm) fun σ H Q h => pure2 ok h
theorem dt_eq (hu : X.A.units + 64 < cLine) (ha : DE X W a xa) (hb : DE X W b xb) : DT X W (.Compare a [.Eq] [b] pos) (tBool (e2 eqB xa xb)) := dt_cmp (op_eqD hu) ok_eq ha hb
theorem dt_ne (hu : X.A.units + 64 < cLine) (ha : DE X W a xa) (hb : DE X W b xb) : DT X W (.Compare a [.NotEq] [b] pos) (tBool (e2 neB xa xb)) := dt_cmp (op_neD hu) ok_ne ha hb
theorem dt_lt (ha : DE X W a xa) (hb : DE X W b xb) : DT X W (.Compare a [.Lt] [b] pos) (tBool (e2 ltD xa xb)) := dt_cmp op_ltX ok_lt ha hb
theorem dt_le (ha : DE X W a xa) (hb : DE X W b xb) : DT X W (.Compare a [.LtE] [b] pos) (tBool (e2 leD xa xb)) := dt_cmp op_leX ok_le ha hb
theorem dt_gt (ha : DE X W a xa) (hb : DE X W b xb) : DT X W (.Compare a [.Gt] [b] pos) (tBool (e2 gtD xa xb)) := dt_cmp op_gt ok_gt ha hb
theorem dt_ge (ha : DE X W a xa) (hb : DE X W b xb) : DT X W (.Compare a [.GtE] [b] pos) (tBool (e2 geD xa xb)) := dt_cmp op_ge ok_ge ha hb
theorem dt_is (ha : DE X W a xa) (hb : DE X W b xb) : DT X W (.Compare a [.Is] [b] pos) (tBool (e2 isN xa xb)) := dt_cmp op_isN ok_isN ha hb
theorem dt_isnot (ha : DE X W a xa) (hb : DE X W b xb) : DT X W (.Compare a [.IsNot] [b] pos) (tBool (e2 notN xa xb)) := dt_cmp op_notN ok_notN ha hb
theorem pureC {r r' : R2} {g g' : G2} {K : Fr} {σ : St} {H : Hp} {Q : VK} (ok : OpOk K r g) (ok' : OpOk K r' g') (h : tD K W (eChain g g' xa xb xc) σ H Q) : tChain r r' (tD K W xa) (tD K W xb) (tD K W xc) σ H Q := by
  obtain ⟨F, α, ρ, μ, m, s, o⟩ := h
  refine tX_mk m s (OutOk.bind o fun v u F1 α1 μ1 H1 g1 m1 r1 o1 => ?_)
  refine tX_mk m1 (s.grow g1) (OutOk.bind o1 fun v2 u2 F2 α2 μ2 H2 g2 m2 r2 o2 => ?_)
  refine ok F2 α2 μ2 H2 v v2 u u2 _ _ m2 (r1.grow g2) r2 (OutOk.bind o2 fun z w F3 α3 μ3 H3 g3 m3 r3 o3 => ?_)
  split at o3
  · cases r3
    refine ⟨true, rfl, iteT ?_⟩
    refine tX_mk m3 (s.grow (g1.trans (g2.trans g3))) (OutOk.bind o3 fun v4 u4 F4 α4 μ4 H4 g4 m4 r4 o4 => ?_)
    exact ok' F4 α4 μ4 H4 v2 v4 u2 u4 _ _ m4 (r2.grow (g3.trans g4)) r4 o4
  · cases r3
    exact ⟨false, rfl, iteF (outB m3 o3)⟩
  · exact o3.elim
theorem de_chain {op op' : CmpOp} {r r' : R2} {g g' : G2} (ho : OpR X (compareOp op) r) (ho' : OpR X (compareOp op') r') (ok : OpOk X.K r g) (ok' : OpOk X.K r' g') (ha : DE X W a xa) (hb : DE X W b xb) (hc : DE X W c xc)
    (hm : lastMarks [op, op'] [b, c] = false := by with_unfolding_all rfl) : DE X W (.Compare a [op, op'] [b, c] pos) (eChain g g' xa xb xc) := ⟨PE.of (pe_chain ho ho' ha.pe hb.pe hc.pe hm) fun σ H Q h => pureC ok ok' h⟩
theorem de_lele (ha : DE X W a xa) (hb : DE X W b xb) (hc : DE X W c xc) (hm : lastMarks [.LtE, .LtE] [b, c] = false := by with_unfolding_all rfl) : DE X W (.Compare a [.LtE, .LtE] [b, c] pos) (eChain leD leD xa xb xc) := de_chain op_leX op_leX ok_le ok_le ha hb hc hm
theorem dw_and1 (ha : DT X W a ta) : DW X W (.BoolOp .And [a] pos) ta := ⟨pw_and1 ha.pt⟩
theorem dw_or1 (ha : DT X W a ta) : DW X W (.BoolOp .Or [a] pos) ta := ⟨pw_or1 ha.pt⟩
theorem dw_and (ha : DT X W a ta) (hb : DW X W (.BoolOp .And (b :: rest) pos) tb) : DW X W (.BoolOp .And (a :: b :: rest) pos) (tAndX ta tb) := by
  refine ⟨PW.of (pw_and ha.pt hb.pw) fun σ H Q ⟨F, α, ρ, μ, m, s, o⟩ => tX_mk m s (OutOk.bind o fun v u F1 α1 μ1 H1 g1 m1 r1 o1 => ?_)⟩
  cases (show u = v from r1)
  cases v with
  | true => exact iteT (tX_mk m1 (s.grow g1) o1)
  | false => exact iteF (OutOk.here (R := RB) o1 m1 rfl)
theorem dw_or (ha : DT X W a ta) (hb : DW X W (.BoolOp .Or (b :: rest) pos) tb) : DW X W (.BoolOp .Or (a :: b :: rest) pos) (tOrX ta tb) := by
  refine ⟨PW.of (pw_or ha.pt hb.pw) fun σ H Q ⟨F, α, ρ, μ, m, s, o⟩ => tX_mk m s (OutOk.bind o fun v u F1 α1 μ1 H1 g1 m1 r1 o1 => ?_)⟩
  cases (show u = v from r1)
  cases v with
  | true => exact iteT (OutOk.here (R := RB) o1 m1 rfl)
  | false => exact iteF (tX_mk m1 (s.grow g1) o1)
theorem dt_w (h : DW X W a ta) : DT X W a ta := ⟨h.pw.pt⟩
theorem dt_not (ha : DT X W a ta) : DT X W (.UnaryOp .Not a pos) (tNotX ta) := by
  refine ⟨PT.of (pt_not ha.pt) fun σ H Q ⟨F, α, ρ, μ, m, s, o⟩ => tX_mk m s (OutOk.bind o fun v u F1 α1 μ1 H1 g1 m1 r1 o1 => ?_)⟩
  cases (show u = v from r1)
  exact OutOk.here (R := RB) o1 m1 rfl
theorem de_one {op} (h : DE X W a xa) : DE X W (.BoolOp op [a] pos) xa := ⟨pe_one h.pe⟩
theorem de_and (ha : DE X W a xa) (hb : DE X W (.BoolOp .And (b :: rest) pos) xb) : DE X W (.BoolOp .And (a :: b :: rest) pos) (eAnd xa xb) := by
  refine ⟨PE.of (pe_andT ha.pe hb.pe) fun σ H Q ⟨F, α, ρ, μ, m, s, o⟩ => tX_mk m s (OutOk.bind o fun v u F1 α1 μ1 H1 g1 m1 r1 o1 => ?_)⟩
  cases e : truD v μ1 with
  | none => simp only [e] at o1; exact o1.elim
  | some k =>
    simp only [e] at o1
    refine ⟨k, tru_of m1 r1 e, ?_⟩
    cases k with
    | true => exact iteT (tX_mk m1 (s.grow g1) o1)
    | false => exact iteF (OutOk.here (R := RV X.K) o1 m1 r1)
theorem de_or (ha : DE X W a xa) (hb : DE X W (.BoolOp .Or (b :: rest) pos) xb) : DE X W (.BoolOp .Or (a :: b :: rest) pos) (eOr xa xb) := by
  refine ⟨PE.of (pe_orT ha.pe hb.pe) fun σ H Q ⟨F, α, ρ, μ, m, s, o⟩ => tX_mk m s (OutOk.bind o fun v u F1 α1 μ1 H1 g1 m1 r1 o1 => ?_)⟩
  cases e : truD v μ1 with
  | none => simp only [e] at o1; exact o1.elim
  | some k =>
    simp only [e] at o1
    refine ⟨k, tru_of m1 r1 e, ?_⟩
    cases k with
    | false => exact iteF (tX_mk m1 (s.grow g1) o1)
    | true => exact iteT (OutOk.here (R := RV X.K) o1 m1 r1)
theorem de_not (ha : DE X W a xa) : DE X W (.UnaryOp .Not a pos) (eNot xa) := by
  refine ⟨PE.of (pe_notT ha.pe) fun σ H Q ⟨F, α, ρ, μ, m, s, o⟩ => tX_mk m s (OutOk.bind o fun v u F1 α1 μ1 H1 g1 m1 r1 o1 => ?_)⟩
  cases e : truD v μ1 with
  | none => simp only [e] at o1; exact o1.elim
  | some k =>
    simp only [e] at o1
    exact ⟨k, tru_of m1 r1 e, outB m1 o1⟩
theorem de_if (hc : DT X W c ta) (ha : DE X W a xa) (hb : DE X W b xb) : DE X W (.IfExp c a b pos) (eIf ta xa xb) := by
  refine ⟨PE.of (pe_ifExp hc.pt ha.pe hb.pe) fun σ H Q ⟨F, α, ρ, μ, m, s, o⟩ => tX_mk m s (OutOk.bind o fun v u F1 α1 μ1 H1 g1 m1 r1 o1 => ?_)⟩
  cases (show u = v from r1)
  cases v with
  | true => exact iteT (tX_mk m1 (s.grow g1) o1)
  | false => exact iteF (tX_mk m1 (s.grow g1) o1)
end
def ofO (o : Option Dat) (μ : List Cel) : Out DV := match o with
  | some d => okD d μ
  | none => .stuck
def ixD : G2
  | .d (.tup ds), .d (.int i), μ => ofO (atI ds i) μ
  | .d (.lst ds), .d (.int i), μ => ofO (atI ds i) μ
  | .d (.fl ds), .d (.int i), μ => ofO (atI ds i) μ
  | .d (.str s), .d (.int i), μ => ofO ((atI s i).map fun c => .str [c]) μ
  | .c n, .d (.int i), μ => (match μ[n]? with
    | some (.lst ds) => ofO (atI ds i) μ
    | _ => .stuck)
  | _, _, _ => .stuck
def cutL {β : Type} (xs : List β) (lo hi : Option Int) : List β := (xs.drop (HT.sIx xs.length 0 lo)).take (HT.sIx xs.length xs.length hi - HT.sIx xs.length 0 lo)
def slD (x : DV) (lo hi : Option Int) (μ : List Cel) : Out DV := match x with
  | .d (.tup ds) => if blT (cutL ds lo hi) = false then okD (.tup (cutL ds lo hi)) μ else .stuck
  | .d (.lst ds) => okD (.lst (cutL ds lo hi)) μ
  | .d (.fl ds) => okD (.lst (cutL ds lo hi)) μ
  | .d (.str s) => okD (.str (cutL s lo hi)) μ
  | .c n => (match μ[n]? with
    | some (.lst ds) => okD (.lst (cutL ds lo hi)) μ
    | _ => .stuck)
  | _ => .stuck
def toI : DV → List Cel → Out (Option Int)
  | .d (.int i), μ => .ok (some i) μ
  | _, _ => .stuck
abbrev OX := Rho → List Cel → Out (Option Int)
def oN : OX := fun _ μ => .ok none μ
def oS (a : EX) : OX := fun ρ μ => (a ρ μ).bind toI
def eSl (a : EX) (lo hi : OX) : EX := fun ρ μ => (a ρ μ).bind fun x μ => (lo ρ μ).bind fun l μ => (hi ρ μ).bind fun h μ => slD x l h μ
def revD : G1
  | .d (.lst ds), μ => okD (.lst ds.reverse) μ
  | .d (.fl ds), μ => okD (.lst ds.reverse) μ
  | _, _ => .stuck
def eRev (a : EX) : EX := e1 revD a
section
variable {K : Fr} {F H : Hp} {α : List Addr} {μ : List Cel}
theorem atI_got {ds : List Dat} {xs : List V} {i : Int} {d : Dat} (r : Reps K F ds xs) (h : atI ds i = some d) : ∃ x, atI xs i = some x ∧ Rep K F d x := by
  unfold atI at h ⊢
  rw [← r.length]
  cases e : ixN ds.length i with
  | none => rw [e] at h; cases h
  | some j =>
    rw [e] at h
    exact r.got h
theorem reps_cut {ds : List Dat} {xs : List V} (r : Reps K F ds xs) (lo hi : Option Int) : Reps K F (cutL ds lo hi) (cutV xs lo hi) := by
  unfold cutL cutV
  rw [← r.length]
  exact (r.drop _).take _
theorem cutL_length {β : Type} (xs : List β) (lo hi : Option Int) : (cutL xs lo hi).length ≤ xs.length := by
  unfold cutL
  rw [List.length_take, List.length_drop]
  omega
theorem ok_ix : OpOk K (rIx K) ixD := by
  intro F α μ H d1 d2 x y Q W m r1 r2 o
  unfold ixD at o
  split at o
  · obtain ⟨z, p, xs, rfl, hx, ra⟩ := r1
    cases r2
    rename_i ds i
    unfold ofO at o
    cases e : atI ds i with
    | none => rw [e] at o; exact o.elim
    | some d =>
      rw [e] at o
      obtain ⟨v, h, r⟩ := atI_got ra e
      exact .inr (.inl ⟨p, xs, _, v, rfl, rfl, sqT_le m.fz hx, h, outD m r o⟩)
  · obtain ⟨z, p, xs, rfl, hx, ra⟩ := r1
    cases r2
    rename_i ds i
    unfold ofO at o
    cases e : atI ds i with
    | none => rw [e] at o; exact o.elim
    | some d =>
      rw [e] at o
      obtain ⟨v, h, r⟩ := atI_got ra e
      exact .inl ⟨p, xs, _, v, rfl, rfl, SqL.of (m.fz _ _ hx), h, outD m r o⟩
  · obtain ⟨z, p, xs, rfl, hx, ra⟩ := r1
    cases r2
    rename_i ds i
    unfold ofO at o
    cases e : atI ds i with
    | none => rw [e] at o; exact o.elim
    | some d =>
      rw [e] at o
      obtain ⟨v, h, r⟩ := atI_got ra e
      exact .inl ⟨p, xs, _, v, rfl, rfl, sqL_le m.fz hx, h, outD m r o⟩
  · rename_i l i
    obtain ⟨z, rfl⟩ := r1
    cases r2
    unfold ofO at o
    cases e : atI l i with
    | none => rw [e] at o; exact o.elim
    | some d =>
      rw [e] at o
      exact .inr (.inr ⟨sV l, _, d, rfl, rfl, by rw [sV_len]; exact lim_line z, by rw [sV_cps]; exact e, outS (l := [d]) m (by show 1 ≤ 16777216; decide) o⟩)
  · rename_i n i
    obtain ⟨a, ha, rfl⟩ := r1
    cases r2
    cases e : μ[n]? with
    | none => rw [e] at o; exact o.elim
    | some c =>
      rw [e] at o
      cases c with
      | lst ds =>
        obtain ⟨_, _, xs, hx, ra⟩ := m.ok n _ a e ha
        simp only [ofO] at o
        cases e : atI ds i with
        | none => rw [e] at o; exact o.elim
        | some d =>
          rw [e] at o
          obtain ⟨v, h, r⟩ := atI_got ra e
          exact .inl ⟨a, xs, _, v, rfl, rfl, SqL.of hx, h, outD m r o⟩
      | ins _ _ => exact o.elim
      | dead => exact o.elim
      | lv _ => exact o.elim
  · exact o.elim
abbrev rSlX (K : Fr) : V → Option Int → Option Int → Hp → VK → Prop := fun x lo hi H Q => rSlA K x lo hi H Q ∨ rSlL K x lo hi H Q ∨ rSlS x lo hi H Q
theorem cutS_sV (s : List Nat) (lo hi : Option Int) : cutS (sV s) lo hi = sV (cutL s lo hi) := by
  unfold cutS cutL
  rw [sV_cps, sV_len]
  rfl
theorem ok_sl {d : DV} {x : V} {lo hi : Option Int} {Q : VK} {W : XK} (m : Mem K F H α μ) (r : RepV K F α d x) (o : OutOk (RV K) K F α (slD d lo hi μ) Q W) : rSlX K x lo hi H Q := by
  unfold slD at o
  split at o
  · rename_i ds
    obtain ⟨z, p, xs, rfl, hx, ra⟩ := r
    have hl := Nat.le_trans (cutL_length ds lo hi) z
    split at o
    case isFalse => exact o.elim
    rename_i hb
    refine .inl ⟨p, xs, rfl, sqT_le m.fz hx, fun ⟨h1, h2⟩ => ?_, fun _ => out_tup m (reps_cut ra lo hi) hl hb o⟩
    have e : cutL ds lo hi = ds := by
      unfold cutL
      rw [ra.length, h1, h2, List.drop_zero, Nat.sub_zero, ← ra.length, List.take_length]
    rw [e] at o
    exact outD (v := .tup ds) m ⟨z, p, xs, rfl, hx, ra⟩ o
  · rename_i ds
    obtain ⟨z, p, xs, rfl, hx, ra⟩ := r
    exact .inr (.inl ⟨p, xs, rfl, SqL.of (m.fz _ _ hx), out_lst m (reps_cut ra lo hi) (Nat.le_trans (cutL_length ds lo hi) z) o⟩)
  · rename_i ds
    obtain ⟨z, p, xs, rfl, hx, ra⟩ := r
    exact .inr (.inl ⟨p, xs, rfl, sqL_le m.fz hx, out_lst m (reps_cut ra lo hi) (Nat.le_trans (cutL_length ds lo hi) z) o⟩)
  · rename_i l
    obtain ⟨z, rfl⟩ := r
    refine .inr (.inr ⟨sV l, rfl, by rw [sV_len]; exact lim_line z, ?_⟩)
    rw [cutS_sV]
    exact outS m (Nat.le_trans (cutL_length l lo hi) z) o
  · rename_i n
    obtain ⟨a, ha, rfl⟩ := r
    cases e : μ[n]? with
    | none => rw [e] at o; exact o.elim
    | some c =>
      rw [e] at o
      cases c with
      | lst ds =>
        obtain ⟨_, z, xs, hx, ra⟩ := m.ok n _ a e ha
        exact .inr (.inl ⟨a, xs, rfl, SqL.of hx, out_lst m (reps_cut ra lo hi) (Nat.le_trans (cutL_length ds lo hi) z) o⟩)
      | ins _ _ => exact o.elim
      | dead => exact o.elim
      | lv _ => exact o.elim
  · exact o.elim
end
abbrev RO : Hp → List Addr → Option Int → Option Int → Prop := fun _ _ v u => u = v
structure DO (X : Cx) (W : WX) (e : Option Expr) (x : OX) : Prop where
  po : PO X e (tX RO X.K W x)
theorem PO.of {X : Cx} {e : Option Expr} {t t' : TO} (h : PO X e t) (i : ∀ σ H Q, t' σ H Q → t σ H Q) : PO X e t' := ⟨fun pins s σ H Q I hw => h.run pins s σ H Q I (i σ H Q hw)⟩
section
variable {X : Cx} {W : WX} {pos p2 : Pos} {a b c : Expr} {xa xb xc : EX} {lo hi : Option Expr} {xl xh : OX}
theorem de_ix (ha : DE X W a xa) (hb : DE X W b xb) (hs : PlainIx b := by exact fun _ _ => rfl) : DE X W (.Subscript a b pos) (e2 ixD xa xb) := ⟨PE.of (pe_ix ix_seq ha.pe hb.pe hs) fun σ H Q h => pure2 ok_ix h⟩
theorem do_n : DO X W none oN := ⟨PO.of po_none fun σ H Q ⟨F, α, ρ, μ, m, s, o⟩ => OutOk.here (R := RO) o m rfl⟩
theorem do_s (ha : DE X W a xa) : DO X W (some a) (oS xa) := by
  refine ⟨PO.of (po_some ha.pe) fun σ H Q ⟨F, α, ρ, μ, m, s, o⟩ => tX_mk m s (OutOk.bind o fun v u F1 α1 μ1 H1 g1 m1 r1 o1 => ?_)⟩
  unfold toI at o1
  split at o1
  · cases r1
    exact ⟨_, rfl, OutOk.here (R := RO) o1 m1 rfl⟩
  · exact o1.elim
theorem de_sl (ha : DE X W a xa) (hl : DO X W lo xl) (hh : DO X W hi xh) : DE X W (.Subscript a (.Slice lo hi none p2) pos) (eSl xa xl xh) := by
  refine ⟨PE.of (pe_slice (sl_tupA.or (sl_list.or sl_str)) ha.pe hl.po hh.po) fun σ H Q ⟨F, α, ρ, μ, m, s, o⟩ => tX_mk m s (OutOk.bind o fun v u F1 α1 μ1 H1 g1 m1 r1 o1 => ?_)⟩
  refine tX_mk m1 (s.grow g1) (OutOk.bind o1 fun l l' F2 α2 μ2 H2 g2 m2 r2 o2 => ?_)
  refine tX_mk m2 (s.grow (g1.trans g2)) (OutOk.bind o2 fun h h' F3 α3 μ3 H3 g3 m3 r3 o3 => ?_)
  cases (show l' = l from r2)
  cases (show h' = h from r3)
  exact ok_sl m3 (r1.grow (g2.trans g3)) o3
end
end DL
set_option Elab.async false
set_option linter.all false
set_option maxRecDepth 100000
set_option maxHeartbeats 4000000
namespace DL
open PySem PySem.Spec PyProof.Rows L2
def lenN : DV → List Cel → Option Nat
  | .d (.str s), _ => some s.length
  | .d (.tup ds), _ => some ds.length
  | .d (.lst ds), _ => some ds.length
  | .d (.fl ds), _ => some ds.length
  | .c n, μ => (match μ[n]? with
    | some (.lst ds) => some ds.length
    | _ => none)
  | _, _ => none
def lenG : Gn
  | [x], μ => (match lenN x μ with
    | some n => okD (.int (n : Int)) μ
    | none => .stuck)
  | _, _ => .stuck
def absG : Gn
  | [.d (.int i)], μ => okD (.int (if i < 0 then -i else i)) μ
  | _, _ => .stuck
def maxG : Gn
  | [.d (.int i), .d (.int j)], μ => okD (.int (if j > i then j else i)) μ
  | _, _ => .stuck
def minG : Gn
  | [.d (.int i), .d (.int j)], μ => okD (.int (if j < i then j else i)) μ
  | _, _ => .stuck
def intG : Gn
  | [.d (.int i)], μ => okD (.int i) μ
  | [.d (.bl k)], μ => okD (.int (if k then 1 else 0)) μ
  | _, _ => .stuck
def tupleG : Gn
  | [.d (.tup ds)], μ => okD (.tup ds) μ
  | [.d (.lst ds)], μ => okD (.tup ds) μ
  | [.d (.fl ds)], μ => okD (.tup ds) μ
  | [.c n], μ => (match μ[n]? with
    | some (.lst ds) => okD (.tup ds) μ
    | _ => .stuck)
  | _, _ => .stuck
def listG : Gn
  | [.d (.tup ds)], μ => okD (.lst ds) μ
  | [.d (.lst ds)], μ => okD (.lst ds) μ
  | [.d (.fl ds)], μ => okD (.lst ds) μ
  | _, _ => .stuck
def bls : List Dat → Option (List Bool)
  | [] => some []
  | .bl b :: r => (bls r).map (b :: ·)
  | _ :: _ => none
def intsD : List Dat → Option (List Int)
  | [] => some []
  | .int b :: r => (intsD r).map (b :: ·)
  | _ :: _ => none
def seqs : DV → List Cel → Option (List Dat)
  | .d (.lst ds), _ => some ds
  | .d (.fl ds), _ => some ds
  | .c n, μ => (match μ[n]? with
    | some (.lst ds) => some ds
    | _ => none)
  | _, _ => none
def anyG : Gn
  | [x], μ => (match (seqs x μ).bind bls with
    | some bs => okD (.bl (bs.any id)) μ
    | none => .stuck)
  | _, _ => .stuck
def allG : Gn
  | [x], μ => (match (seqs x μ).bind bls with
    | some bs => okD (.bl (bs.all id)) μ
    | none => .stuck)
  | _, _ => .stuck
def sumG : Gn
  | [x], μ => (match (seqs x μ).bind intsD with
    | some bs => okD (.int bs.sum) μ
    | none => .stuck)
  | _, _ => .stuck
def divmodG : Gn
  | [.d (.int i), .d (.int j)], μ => if 0 < j ∧ j < 1073741824 then okD (.tup [.int (i / j), .int (i % j)]) μ else .stuck
  | _, _ => .stuck
section
variable {K : Fr}
theorem repVs1 {F : Hp} {α : List Addr} {d : DV} {xs : List V} (h : RepVs K F α [d] xs) : ∃ x, xs = [x] ∧ RepV K F α d x := by
  obtain ⟨x, r, rfl, h1, h2⟩ := h
  cases (show r = [] from h2)
  exact ⟨x, rfl, h1⟩
theorem repVs2 {F : Hp} {α : List Addr} {d e : DV} {xs : List V} (h : RepVs K F α [d, e] xs) : ∃ x y, xs = [x, y] ∧ RepV K F α d x ∧ RepV K F α e y := by
  obtain ⟨x, r, rfl, h1, h2⟩ := h
  obtain ⟨y, rfl, h3⟩ := repVs1 h2
  exact ⟨x, y, rfl, h1, h3⟩
/-- what may be walked as a list -/
theorem seqs_of {F H : Hp} {α : List Addr} {μ : List Cel} (m : Mem K F H α μ) : ∀ {d : DV} {x : V} {ds : List Dat}, RepV K F α d x → seqs d μ = some ds → ∃ a xs, x = .ref a ∧ SqL K H a xs ∧ Reps K F ds xs ∧ ds.length ≤ LIM
  | .d (.lst _), _, _, ⟨z, a, xs, r, h, rr⟩, e => by cases r; cases e; exact ⟨a, xs, rfl, SqL.of (m.fz _ _ h), rr, z⟩
  | .d (.fl _), _, _, ⟨z, a, xs, r, h, rr⟩, e => by cases r; cases e; exact ⟨a, xs, rfl, sqL_le m.fz h, rr, z⟩
  | .c n, _, ds, ⟨a, h, r⟩, e => by
    cases r
    have e' : (match μ[n]? with
      | some (.lst ds) => some ds
      | _ => none) = some ds := e
    cases q : μ[n]? with
    | none => rw [q] at e'; cases e'
    | some c =>
      rw [q] at e'
      cases c with
      | lst ds2 =>
        obtain ⟨_, z, xs, h2, rr⟩ := m.ok n _ a q h
        cases e'
        exact ⟨a, xs, rfl, SqL.of h2, rr, z⟩
      | ins _ _ => cases e'
      | dead => cases e'
      | lv _ => cases e'
  | .d .non, _, _, _, e => by cases e
  | .d (.bl _), _, _, _, e => by cases e
  | .d (.int _), _, _, _, e => by cases e
  | .d (.str _), _, _, _, e => by cases e
  | .d (.tup _), _, _, _, e => by cases e
  | .d (.ins _ _), _, _, _, e => by cases e
  | .d .dic, _, _, _, e => by cases e
theorem bls_of {F : Hp} : ∀ {ds : List Dat} {xs : List V} {bs : List Bool}, Reps K F ds xs → bls ds = some bs → xs = bs.map V.bl
  | [], _, _, h, e => by cases e; exact h
  | .bl b :: r, _, _, ⟨x, t, e1, h1, h2⟩, e => by
    subst e1
    obtain ⟨l, e2, e3⟩ := Option.map_eq_some_iff.mp (show (bls r).map (b :: ·) = some _ from e)
    subst e3
    cases h1
    rw [bls_of h2 e2]
    rfl
  | .non :: _, _, _, _, e => by cases e
  | .int _ :: _, _, _, _, e => by cases e
  | .str _ :: _, _, _, _, e => by cases e
  | .tup _ :: _, _, _, _, e => by cases e
  | .lst _ :: _, _, _, _, e => by cases e
  | .ins _ _ :: _, _, _, _, e => by cases e
  | .dic :: _, _, _, _, e => by cases e
  | .fl _ :: _, _, _, _, e => by cases e
theorem ints_of {F : Hp} : ∀ {ds : List Dat} {xs : List V} {bs : List Int}, Reps K F ds xs → intsD ds = some bs → xs = bs.map V.int
  | [], _, _, h, e => by cases e; exact h
  | .int b :: r, _, _, ⟨x, t, e1, h1, h2⟩, e => by
    subst e1
    obtain ⟨l, e2, e3⟩ := Option.map_eq_some_iff.mp (show (intsD r).map (b :: ·) = some _ from e)
    subst e3
    cases h1
    rw [ints_of h2 e2]
    rfl
  | .non :: _, _, _, _, e => by cases e
  | .bl _ :: _, _, _, _, e => by cases e
  | .str _ :: _, _, _, _, e => by cases e
  | .tup _ :: _, _, _, _, e => by cases e
  | .lst _ :: _, _, _, _, e => by cases e
  | .ins _ _ :: _, _, _, _, e => by cases e
  | .dic :: _, _, _, _, e => by cases e
  | .fl _ :: _, _, _, _, e => by cases e
theorem ok_len : CaOk K (fun xs H Q => ∃ x n, xs = [x] ∧ LenV K x H n ∧ Q (.int (n : Nat)) H) lenG := by
  intro F α μ H ds xs Q W m r o
  unfold lenG at o
  split at o
  · rename_i d
    obtain ⟨x, rfl, r1⟩ := repVs1 r
    cases e : lenN d μ with
    | none => rw [e] at o; exact o.elim
    | some n =>
      rw [e] at o
      refine ⟨x, n, rfl, ?_, outI m o⟩
      unfold lenN at e
      split at e
      · obtain ⟨z, rfl⟩ := r1
        cases e
        exact ⟨by rw [sV_len]; exact lim_line z, (sV_len _).symm⟩
      · obtain ⟨z, a, ys, rfl, h, rr⟩ := r1
        cases e
        exact .inr ⟨ys, sqT_le m.fz h, rr.length⟩
      · obtain ⟨z, a, ys, rfl, h, rr⟩ := r1
        cases e
        exact .inl ⟨ys, SqL.of (m.fz _ _ h), rr.length⟩
      · obtain ⟨z, a, ys, rfl, h, rr⟩ := r1
        cases e
        exact .inl ⟨ys, sqL_le m.fz h, rr.length⟩
      · rename_i k
        obtain ⟨a, h, rfl⟩ := r1
        cases q : μ[k]? with
        | none => rw [q] at e; cases e
        | some c =>
          rw [q] at e
          cases c with
          | lst ds2 =>
            obtain ⟨_, z, ys, h2, rr⟩ := m.ok k _ a q h
            cases e
            exact .inl ⟨ys, SqL.of h2, rr.length⟩
          | ins _ _ => cases e
          | dead => cases e
          | lv _ => cases e
      · cases e
  · exact o.elim
theorem ok_abs : CaOk K (fun xs H Q => ∃ i, xs = [.int i] ∧ Q (.int (if i < 0 then -i else i)) H) absG := by
  intro F α μ H ds xs Q W m r o
  unfold absG at o
  split at o
  · obtain ⟨x, rfl, r1⟩ := repVs1 r
    cases r1
    exact ⟨_, rfl, outI m o⟩
  · exact o.elim
theorem ok_max : CaOk K (fun xs H Q => ∃ i j, xs = [.int i, .int j] ∧ Q (.int (if j > i then j else i)) H) maxG := by
  intro F α μ H ds xs Q W m r o
  unfold maxG at o
  split at o
  · obtain ⟨x, y, rfl, r1, r2⟩ := repVs2 r
    cases r1; cases r2
    exact ⟨_, _, rfl, outI m o⟩
  · exact o.elim
theorem ok_min : CaOk K (fun xs H Q => ∃ i j, xs = [.int i, .int j] ∧ Q (.int (if j < i then j else i)) H) minG := by
  intro F α μ H ds xs Q W m r o
  unfold minG at o
  split at o
  · obtain ⟨x, y, rfl, r1, r2⟩ := repVs2 r
    cases r1; cases r2
    exact ⟨_, _, rfl, outI m o⟩
  · exact o.elim
theorem ok_int : CaOk K (fun xs H Q => (∃ i, xs = [.int i] ∧ Q (.int i) H) ∨ ∃ k, xs = [.bl k] ∧ Q (.int (if k then 1 else 0)) H) intG := by
  intro F α μ H ds xs Q W m r o
  unfold intG at o
  split at o
  · obtain ⟨x, rfl, r1⟩ := repVs1 r
    cases r1
    exact .inl ⟨_, rfl, outI m o⟩
  · obtain ⟨x, rfl, r1⟩ := repVs1 r
    cases r1
    exact .inr ⟨_, rfl, outI m o⟩
  · exact o.elim
/-- tuple(x) of a list: the object that is made is known -/
theorem call_tuple_ofP {X : Cx} : CallR X (.type "tuple") (fun xs H Q => ∃ p ys, xs = [.ref p] ∧ ((SqL X.K H p ys ∧ ∀ (l : Addr) (ob : Obj), ob.dict = none → H l = none → Q (.ref l) (upd H l (.frz ob (.tup ys)))) ∨ (SqT X.K H p ys ∧ Q (.ref p) H))) := by
  intro pins s σ H xs us Q I r h
  obtain ⟨p, ys, rfl, h⟩ := h
  obtain ⟨u, rfl, rx⟩ := vals1 r
  cases rx
  rcases h with ⟨hq, q⟩ | ⟨hq, q⟩
  · obtain ⟨its, r', pl, hz⟩ := I.list hq
    have hlen := r'.length
    refine call_tuple_list pl.isList (fun h' kp => ?_) (by simp only [List.size_toArray] <;> omega)
    have I1 : Inv X pins σ H { s with heap := h' } := I.kept (t' := s.toks) kp
    have I2 : Inv X pins σ (upd H h'.objs.size (.frz { cls := .type "tuple", data := .seq its.toArray } (.tup ys))) { s with heap := h'.push { cls := .type "tuple", data := .seq its.toArray } } :=
      I1.laid (t' := s.toks) (fun b o e => Heap.get?_push_of_some _ e) (Nat.le_refl _) (show ObjOk X.prog X.w _ _ _ (.frz _ (.tup ys)) from ⟨Heap.get?_push_size _ rfl, hz, its, r', IsTup.new _ _⟩)
    exact ⟨.ref h'.objs.size, _, I2, rfl, q _ _ rfl (I1.hok.fresh (Nat.le_refl _))⟩
  · obtain ⟨its, r', pl, hz⟩ := I.tuple hq
    exact call_tuple_same pl ⟨.ref p, H, I, rfl, q⟩
theorem ok_tuple : CaOk K (fun xs H Q => ∃ p ys, xs = [.ref p] ∧ ((SqL K H p ys ∧ ∀ (l : Addr) (ob : Obj), ob.dict = none → H l = none → Q (.ref l) (upd H l (.frz ob (.tup ys)))) ∨ (SqT K H p ys ∧ Q (.ref p) H))) tupleG := by
  intro F α μ H ds xs Q W m r o
  unfold tupleG at o
  split at o
  · rename_i es
    obtain ⟨x, rfl, r1⟩ := repVs1 r
    obtain ⟨z, a, ys, rfl, h, rr⟩ := r1
    exact ⟨a, ys, rfl, .inr ⟨sqT_le m.fz h, outD (v := .tup es) m ⟨z, a, ys, rfl, h, rr⟩ o⟩⟩
  · obtain ⟨x, rfl, r1⟩ := repVs1 r
    obtain ⟨z, a, ys, rfl, h, rr⟩ := r1
    exact ⟨a, ys, rfl, .inl ⟨SqL.of (m.fz _ _ h), fun l ob hd hl => out_tupF hd m rr z o l hl⟩⟩
  · obtain ⟨x, rfl, r1⟩ := repVs1 r
    obtain ⟨z, a, ys, rfl, h, rr⟩ := r1
    exact ⟨a, ys, rfl, .inl ⟨sqL_le m.fz h, fun l ob hd hl => out_tupF hd m rr z o l hl⟩⟩
  · rename_i n
    obtain ⟨x, rfl, r1⟩ := repVs1 r
    cases e : seqs (.c n) μ with
    | none =>
      have e' : (match μ[n]? with
        | some (.lst ds) => some ds
        | _ => none) = none := e
      cases q : μ[n]? with
      | none => rw [q] at o; exact o.elim
      | some c =>
        rw [q] at o e'
        cases c with
        | lst ds2 => cases e'
        | ins _ _ => exact o.elim
        | dead => exact o.elim
        | lv _ => exact o.elim
    | some es =>
      obtain ⟨a, ys, rfl, hl, rr, z⟩ := seqs_of m r1 e
      have e' : (match μ[n]? with
        | some (.lst ds) => some ds
        | _ => none) = some es := e
      cases q : μ[n]? with
      | none => rw [q] at o; exact o.elim
      | some c =>
        rw [q] at o e'
        cases c with
        | lst ds2 => cases e'; exact ⟨a, ys, rfl, .inl ⟨hl, fun l ob hd hl => out_tupF hd m rr z o l hl⟩⟩
        | ins _ _ => exact o.elim
        | dead => exact o.elim
        | lv _ => exact o.elim
  · exact o.elim
theorem ok_list : CaOk K (fun xs H Q => ∃ p ys, xs = [.ref p] ∧ (SqL K H p ys ∨ SqT K H p ys) ∧ ∀ l, H l = none → Q (.ref l) (upd H l (.lst ys))) listG := by
  intro F α μ H ds xs Q W m r o
  unfold listG at o
  split at o
  · obtain ⟨x, rfl, r1⟩ := repVs1 r
    obtain ⟨z, a, ys, rfl, h, rr⟩ := r1
    exact ⟨a, ys, rfl, .inr (sqT_le m.fz h), out_lst m rr z o⟩
  · obtain ⟨x, rfl, r1⟩ := repVs1 r
    obtain ⟨z, a, ys, rfl, h, rr⟩ := r1
    exact ⟨a, ys, rfl, .inl (SqL.of (m.fz _ _ h)), out_lst m rr z o⟩
  · obtain ⟨x, rfl, r1⟩ := repVs1 r
    obtain ⟨z, a, ys, rfl, h, rr⟩ := r1
    exact ⟨a, ys, rfl, .inl (sqL_le m.fz h), out_lst m rr z o⟩
  · exact o.elim
theorem ok_any : CaOk K (rAny K) anyG := by
  intro F α μ H ds xs Q W m r o
  unfold anyG at o
  split at o
  · rename_i d
    obtain ⟨x, rfl, r1⟩ := repVs1 r
    cases e : seqs d μ with
    | none => rw [e] at o; exact o.elim
    | some es =>
      rw [e] at o
      cases e2 : bls es with
      | none => simp only [Option.bind_some, e2] at o; exact o.elim
      | some bs =>
        simp only [Option.bind_some, e2] at o
        obtain ⟨a, ys, rfl, hl, rr, z⟩ := seqs_of m r1 e
        cases bls_of rr e2
        exact ⟨a, bs, rfl, hl, outB m o⟩
  · exact o.elim
theorem ok_all : CaOk K (rAll K) allG := by
  intro F α μ H ds xs Q W m r o
  unfold allG at o
  split at o
  · rename_i d
    obtain ⟨x, rfl, r1⟩ := repVs1 r
    cases e : seqs d μ with
    | none => rw [e] at o; exact o.elim
    | some es =>
      rw [e] at o
      cases e2 : bls es with
      | none => simp only [Option.bind_some, e2] at o; exact o.elim
      | some bs =>
        simp only [Option.bind_some, e2] at o
        obtain ⟨a, ys, rfl, hl, rr, z⟩ := seqs_of m r1 e
        cases bls_of rr e2
        exact ⟨a, bs, rfl, hl, outB m o⟩
  · exact o.elim
theorem ok_divmod : CaOk K (fun xs H Q => ∃ i j, xs = [.int i, .int j] ∧ CDiv i j ∧ ∀ p, H p = none → Q (.ref p) (upd H p (.tup [.int (i / j), .int (i % j)]))) divmodG := by
  intro F α μ H ds xs Q W m r o
  unfold divmodG at o
  split at o
  · obtain ⟨x, y, rfl, r1, r2⟩ := repVs2 r
    cases r1; cases r2
    split at o
    · rename_i hc
      exact ⟨_, _, rfl, hc, out_tup m (ds := [.int _, .int _]) ⟨_, _, rfl, rfl, _, _, rfl, rfl, rfl⟩ (by show 2 ≤ 16777216; decide) rfl o⟩
    · exact o.elim
  · exact o.elim
end
section
variable {X : Cx} {W : WX} {pos p : Pos} {e : Expr} {es : List Expr} {xs : EXs}
theorem de_len (hg : Gl X "len") (hm : X.mg "len" = none) (ha : DA X W (e :: es) xs) (he : starEach (e :: es) X.env = (false, eval e X.env) :: starEach es X.env := by rfl) (hpl : (backTo pos (starEach es X.env)).any (·.1) = false := by rfl) : DE X W (.Call (.Name "len" p) (e :: es) [] pos) (eN lenG xs) := de_callB call_len ok_len hg hm PySem.boot_len ha (by decide) (by decide) he hpl
theorem de_abs (hg : Gl X "abs") (hm : X.mg "abs" = none) (ha : DA X W (e :: es) xs) (he : starEach (e :: es) X.env = (false, eval e X.env) :: starEach es X.env := by rfl) (hpl : (backTo pos (starEach es X.env)).any (·.1) = false := by rfl) : DE X W (.Call (.Name "abs" p) (e :: es) [] pos) (eN absG xs) := de_callB call_abs ok_abs hg hm boot_abs ha (by decide) (by decide) he hpl
theorem de_max (hc : X.calm = true) (hg : Gl X "max") (hm : X.mg "max" = none) (ha : DA X W (e :: es) xs) (he : starEach (e :: es) X.env = (false, eval e X.env) :: starEach es X.env := by rfl) (hpl : (backTo pos (starEach es X.env)).any (·.1) = false := by rfl) : DE X W (.Call (.Name "max" p) (e :: es) [] pos) (eN maxG xs) := de_callB (call_max2 hc) ok_max hg hm boot_max ha (by decide) (by decide) he hpl
theorem de_min (hc : X.calm = true) (hg : Gl X "min") (hm : X.mg "min" = none) (ha : DA X W (e :: es) xs) (he : starEach (e :: es) X.env = (false, eval e X.env) :: starEach es X.env := by rfl) (hpl : (backTo pos (starEach es X.env)).any (·.1) = false := by rfl) : DE X W (.Call (.Name "min" p) (e :: es) [] pos) (eN minG xs) := de_callB (call_min2 hc) ok_min hg hm boot_min ha (by decide) (by decide) he hpl
theorem de_cint (hg : Gl X "int") (hm : X.mg "int" = none) (ha : DA X W (e :: es) xs) (he : starEach (e :: es) X.env = (false, eval e X.env) :: starEach es X.env := by rfl) (hpl : (backTo pos (starEach es X.env)).any (·.1) = false := by rfl) : DE X W (.Call (.Name "int" p) (e :: es) [] pos) (eN intG xs) := de_callTy call_int1 ok_int hg hm boot_int ha (by decide) (by decide) he hpl
theorem de_ctup (hg : Gl X "tuple") (hm : X.mg "tuple" = none) (ha : DA X W (e :: es) xs) (he : starEach (e :: es) X.env = (false, eval e X.env) :: starEach es X.env := by rfl) (hpl : (backTo pos (starEach es X.env)).any (·.1) = false := by rfl) : DE X W (.Call (.Name "tuple" p) (e :: es) [] pos) (eN tupleG xs) := de_callTy call_tuple_ofP ok_tuple hg hm boot_tuple ha (by decide) (by decide) he hpl
theorem de_clst (hg : Gl X "list") (hm : X.mg "list" = none) (ha : DA X W (e :: es) xs) (he : starEach (e :: es) X.env = (false, eval e X.env) :: starEach es X.env := by rfl) (hpl : (backTo pos (starEach es X.env)).any (·.1) = false := by rfl) : DE X W (.Call (.Name "list" p) (e :: es) [] pos) (eN listG xs) := de_callTy call_list_of ok_list hg hm boot_list ha (by decide) (by decide) he hpl
theorem de_any (hc : X.calm = true) (hg : Gl X "any") (hm : X.mg "any" = none) (ha : DA X W (e :: es) xs) (he : starEach (e :: es) X.env = (false, eval e X.env) :: starEach es X.env := by rfl) (hpl : (backTo pos (starEach es X.env)).any (·.1) = false := by rfl) : DE X W (.Call (.Name "any" p) (e :: es) [] pos) (eN anyG xs) := de_callB (cr_any hc) ok_any hg hm (by decide +kernel) ha (by decide) (by decide) he hpl
theorem de_all (hc : X.calm = true) (hg : Gl X "all") (hm : X.mg "all" = none) (ha : DA X W (e :: es) xs) (he : starEach (e :: es) X.env = (false, eval e X.env) :: starEach es X.env := by rfl) (hpl : (backTo pos (starEach es X.env)).any (·.1) = false := by rfl) : DE X W (.Call (.Name "all" p) (e :: es) [] pos) (eN allG xs) := de_callB (cr_all hc) ok_all hg hm (by decide +kernel) ha (by decide) (by decide) he hpl
theorem de_divmod (hg : Gl X "divmod") (hm : X.mg "divmod" = none) (ha : DA X W (e :: es) xs) (he : starEach (e :: es) X.env = (false, eval e X.env) :: starEach es X.env := by rfl) (hpl : (backTo pos (starEach es X.env)).any (·.1) = false := by rfl) : DE X W (.Call (.Name "divmod" p) (e :: es) [] pos) (eN divmodG xs) := de_callB call_divmod ok_divmod hg hm boot_divmod ha (by decide) (by decide) he hpl
end
end DL
set_option Elab.async false
set_option linter.all false
set_option maxRecDepth 100000
set_option maxHeartbeats 4000000
namespace DL
open PySem PySem.Spec PyProof.Rows L2
inductive SOut where
  | nx (ρ : Rho) (μ : List Cel) | rt (v : DV) (μ : List Cel) | raise (e : Exn) (ρ : Rho) (μ : List Cel) | stuck
abbrev SX := Rho → List Cel → SOut
def SOut.bind (o : SOut) (f : Rho → List Cel → SOut) : SOut := match o with
  | .nx ρ μ => f ρ μ
  | .rt v μ => .rt v μ
  | .raise e ρ μ => .raise e ρ μ
  | .stuck => .stuck
@[simp] theorem sbind_nx (ρ : Rho) (μ : List Cel) (f : Rho → List Cel → SOut) : (SOut.nx ρ μ).bind f = f ρ μ := rfl
@[simp] theorem sbind_rt (v : DV) (μ : List Cel) (f : Rho → List Cel → SOut) : (SOut.rt v μ).bind f = .rt v μ := rfl
@[simp] theorem sbind_raise (e : Exn) (ρ : Rho) (μ : List Cel) (f : Rho → List Cel → SOut) : (SOut.raise e ρ μ).bind f = .raise e ρ μ := rfl
@[simp] theorem sbind_stuck (f : Rho → List Cel → SOut) : (SOut.stuck).bind f = .stuck := rfl
/-- an expression's outcome within a statement -/
def Out.sbind {τ : Type} (o : Out τ) (ρ : Rho) (f : τ → List Cel → SOut) : SOut := match o with
  | .ok v μ => f v μ
  | .raise e μ => .raise e ρ μ
  | .stuck => .stuck
@[simp] theorem osbind_ok {τ : Type} (v : τ) (ρ : Rho) (μ : List Cel) (f : τ → List Cel → SOut) : (Out.ok v μ).sbind ρ f = f v μ := rfl
@[simp] theorem osbind_raise {τ : Type} (e : Exn) (ρ : Rho) (μ : List Cel) (f : τ → List Cel → SOut) : (Out.raise e μ : Out τ).sbind ρ f = .raise e ρ μ := rfl
@[simp] theorem osbind_stuck {τ : Type} (ρ : Rho) (f : τ → List Cel → SOut) : (Out.stuck : Out τ).sbind ρ f = .stuck := rfl
/-- what is wanted behind a statement -/
structure Fin (K : Fr) where
  nx : St → Hp → Prop
  rt : VK
  ex : WX
def SOk (K : Fr) (F : Hp) (α : List Addr) (o : SOut) (nx : St → Hp → Prop) (rt : VK) (W : WX) : Prop := match o with
  | .nx ρ' μ' => ∀ σ' F' α' H', Grow F α F' α' → Mem K F' H' α' μ' → Slots K F' α' ρ' σ' → nx σ' H'
  | .rt v μ' => ∀ u F' α' H', Grow F α F' α' → Mem K F' H' α' μ' → RepV K F' α' v u → rt u H'
  | .raise e ρ' μ' => ∀ cls dx σ' F' α' H', Grow F α F' α' → Mem K F' H' α' μ' → Slots K F' α' ρ' σ' → ExnRep K F' e cls dx → W cls dx σ' H'
  | .stuck => False
section
variable {K : Fr} {F F' H : Hp} {α α' : List Addr} {o : SOut} {nx nx' : St → Hp → Prop} {rt : VK} {W : WX}
theorem SOk.grow (g : Grow F α F' α') (h : SOk K F α o nx rt W) : SOk K F' α' o nx rt W := by
  cases o with
  | nx ρ μ => exact fun σ F2 α2 H2 g2 m s => h σ F2 α2 H2 (g.trans g2) m s
  | rt v μ => exact fun u F2 α2 H2 g2 m s => h u F2 α2 H2 (g.trans g2) m s
  | raise e ρ μ => exact fun cls dx σ F2 α2 H2 g2 m s => h cls dx σ F2 α2 H2 (g.trans g2) m s
  | stuck => exact h
theorem SOk.bind {f : Rho → List Cel → SOut} (h : SOk K F α (o.bind f) nx rt W) (k : ∀ ρ σ F1 α1 μ1 H1, Grow F α F1 α1 → Mem K F1 H1 α1 μ1 → Slots K F1 α1 ρ σ → SOk K F1 α1 (f ρ μ1) nx rt W → nx' σ H1) : SOk K F α o nx' rt W := by
  cases o with
  | nx ρ μ => exact fun σ F2 α2 H2 g2 m s => k ρ σ F2 α2 μ H2 g2 m s (SOk.grow g2 h)
  | rt v μ => exact h
  | raise e ρ μ => exact h
  | stuck => exact h
/-- from an expression's outcome -/
theorem SOk.ebind {τ ω : Type} {R : Hp → List Addr → τ → ω → Prop} {o : Out τ} {ρ : Rho} {σ : St} {f : τ → List Cel → SOut} {Q' : ω → Hp → Prop} (s : Slots K F α ρ σ) (h : SOk K F α (o.sbind ρ f) nx rt W)
    (k : ∀ v u F1 α1 μ1 H1, Grow F α F1 α1 → Mem K F1 H1 α1 μ1 → R F1 α1 v u → SOk K F1 α1 (f v μ1) nx rt W → Q' u H1) : OutOk R K F α o Q' (fun cls dx H' => W cls dx σ H') := by
  cases o with
  | ok v μ1 => exact fun u F1 α1 H1 g m r => k v u F1 α1 μ1 H1 g m r (SOk.grow g h)
  | raise e μ1 => exact fun cls dx F1 α1 H1 g m r => h cls dx σ F1 α1 H1 g m (s.grow g) r
  | stuck => exact h
theorem SOk.here {ρ : Rho} {σ : St} {μ : List Cel} (h : SOk K F α (.nx ρ μ) nx rt W) (m : Mem K F H α μ) (s : Slots K F α ρ σ) : nx σ H := h σ F α H Grow.refl m s
end
/-- the reading of code that does g -/
def tS (K : Fr) (W : WX) (g : SX) : TS := fun D σ H => ∃ F α ρ μ, Mem K F H α μ ∧ Slots K F α ρ σ ∧ SOk K F α (g ρ μ) D.nx D.rt W
structure DS (X : Cx) (W : WX) (st : Stmt) (g : SX) : Prop where
  ps : PS X st (tS X.K W g)
structure DSs (X : Cx) (W : WX) (st : List Stmt) (g : SX) : Prop where
  pss : PSs X st (tS X.K W g)
def sSkip : SX := fun ρ μ => .nx ρ μ
def sSeq (a b : SX) : SX := fun ρ μ => (a ρ μ).bind b
def sIf (c : TX) (a b : SX) : SX := fun ρ μ => (c ρ μ).sbind ρ fun x μ => if x then a ρ μ else b ρ μ
def sRet (e : EX) : SX := fun ρ μ => (e ρ μ).sbind ρ fun v μ => .rt v μ
def sRetN : SX := fun ρ μ => .rt (.d .non) μ
def sDo (e : EX) : SX := fun ρ μ => (e ρ μ).sbind ρ fun _ μ => .nx ρ μ
/-- a target: what a value does to the slots and the cells -/
abbrev GX := DV → Rho → List Cel → SOut
def gN (i : Nat) : GX := fun v ρ μ => .nx (ρ.set i (some v)) μ
def sAsg (e : EX) (g : GX) : SX := fun ρ μ => (e ρ μ).sbind ρ fun v μ => g v ρ μ
def sNever : SX := fun _ _ => .stuck
def tGX (K : Fr) (W : WX) (g : GX) : TG := fun x σ H Q => ∃ F α ρ μ v rt, Mem K F H α μ ∧ Slots K F α ρ σ ∧ RepV K F α v x ∧ SOk K F α (g v ρ μ) Q rt W
structure DG (X : Cx) (W : WX) (e : Expr) (g : GX) : Prop where
  pg : PG X e (tGX X.K W g)
theorem PG.of {X : Cx} {e : Expr} {t t' : TG} (h : PG X e t) (i : ∀ v σ H Q, t' v σ H Q → t v σ H Q) : PG X e t' := ⟨fun pins s σ H v u Q I r hw => h.run pins s σ H v u Q I r (i v σ H Q hw)⟩
section
variable {X : Cx} {W : WX} {pos : Pos} {st : Stmt} {sts : List Stmt} {g g' : SX} {e c : Expr} {x : EX} {t : TX}
theorem dss_nil : DSs X W [] sSkip := ⟨PSs.of pss_nil fun D σ H ⟨F, α, ρ, μ, m, s, o⟩ => SOk.here o m s⟩
theorem dss_cons (h : DS X W st g) (hs : DSs X W sts g') : DSs X W (st :: sts) (sSeq g g') := ⟨PSs.of (pss_cons h.ps hs.pss) fun D σ H ⟨F, α, ρ, μ, m, s, o⟩ =>
  ⟨F, α, ρ, μ, m, s, SOk.bind o fun ρ1 σ1 F1 α1 μ1 H1 g1 m1 s1 o1 => ⟨F1, α1, ρ1, μ1, m1, s1, o1⟩⟩⟩
theorem ds_if {a b : List Stmt} (hc : DT X W c t) (ha : DSs X W a g) (hb : DSs X W b g') : DS X W (.If c a b pos) (sIf t g g') := by
  refine ⟨PS.of (ps_if hc.pt ha.pss hb.pss) fun D σ H ⟨F, α, ρ, μ, m, s, o⟩ => tX_mk m s (SOk.ebind s o fun v u F1 α1 μ1 H1 g1 m1 r1 o1 => ?_)⟩
  cases (show u = v from r1)
  cases v with
  | true => exact iteT ⟨F1, α1, ρ, μ1, m1, s.grow g1, o1⟩
  | false => exact iteF ⟨F1, α1, ρ, μ1, m1, s.grow g1, o1⟩
theorem ds_ret (he : DE X W e x) : DS X W (.Return (some e) pos) (sRet x) :=
  ⟨PS.of (ps_ret he.pe) fun D σ H ⟨F, α, ρ, μ, m, s, o⟩ => tX_mk m s (SOk.ebind s o fun v u F1 α1 μ1 H1 g1 m1 r1 o1 => o1 u F1 α1 H1 Grow.refl m1 r1)⟩
theorem ds_do (he : DE X W e x) (hs : swapsWith e none pos.line X.env = pure false := by rfl) : DS X W (.Expr e pos) (sDo x) :=
  ⟨PS.of (ps_expr he.pe hs) fun D σ H ⟨F, α, ρ, μ, m, s, o⟩ => tX_mk m s (SOk.ebind s o fun v u F1 α1 μ1 H1 g1 m1 r1 o1 => SOk.here o1 m1 (s.grow g1))⟩
theorem ds_never : DS X W st sNever := ⟨PS.of ps_never fun D σ H ⟨F, α, ρ, μ, m, s, o⟩ => o⟩
/-- name = e -/
theorem ds_set (i : Nat) {y : Str} {p2 : Pos} (hN : X.N.Nodup) (he : DE X W e x) (hi : X.N[i]? = some y := by rfl) (hx : Loc X.env.scope y := by first | exact .inl rfl | exact .inr rfl) (hs : swapsWith e (some (.Name y p2)) pos.line X.env = pure false := by rfl)
    (hf : X.fn y = true ∨ X.env.scope.names.lookup y = some .local := by first | exact .inl rfl | exact .inr rfl | assumption) : DS X W (.Assign [.Name y p2] e pos) (sAsg x (gN i)) :=
  ⟨PS.of (ps_set hN hi hx he.pe hs hf) fun D σ H ⟨F, α, ρ, μ, m, s, o⟩ => tX_mk m s (SOk.ebind s o fun v u F1 α1 μ1 H1 g1 m1 r1 o1 => SOk.here o1 m1 ((s.grow g1).set i r1))⟩
/-- target = e -/
theorem ds_asg {tg : Expr} {gt : GX} (he : DE X W e x) (hg : DG X W tg gt) (hs : swapsWithSole [tg] e pos.line X.env = pure false := by rfl) (hw : swappedStores [tg] e X.env = pure none := by rfl)
    (h1 : (assignEach [tg] X.env).map (·.2) = [assign tg X.env] := by rfl) : DS X W (.Assign [tg] e pos) (sAsg x gt) := by
  refine ⟨PS.of (ps_asg he.pe hg.pg hs hw h1) fun D σ H ⟨F, α, ρ, μ, m, s, o⟩ => tX_mk m s (SOk.ebind s o fun v u F1 α1 μ1 H1 g1 m1 r1 o1 => ?_)⟩
  exact ⟨F1, α1, ρ, μ1, v, _, m1, s.grow g1, r1, o1⟩
theorem dg_n (i : Nat) {y : Str} (hN : X.N.Nodup) (hi : X.N[i]? = some y := by rfl) (hx : Loc X.env.scope y := by first | exact .inl rfl | exact .inr rfl) (hf : X.fn y = true ∨ X.env.scope.names.lookup y = some .local := by first | exact .inl rfl | exact .inr rfl | assumption) : DG X W (.Name y pos) (gN i) :=
  ⟨PG.of (pg_name hN hi hx hf) fun u σ H Q ⟨F, α, ρ, μ, v, rt, m, s, r, o⟩ => SOk.here o m (s.set i r)⟩
end
abbrev GXs := List Dat → Rho → List Cel → SOut
def gsN : GXs := fun vs ρ μ => match vs with
  | [] => .nx ρ μ
  | _ => .stuck
def gsC (g : GX) (gs : GXs) : GXs := fun vs ρ μ => match vs with
  | v :: r => (g (.d v) ρ μ).bind (gs r)
  | [] => .stuck
def gT (n : Nat) (gs : GXs) : GX := fun v ρ μ => match v with
  | .d (.tup ds) => if ds.length = n then gs ds ρ μ else .stuck
  | _ => .stuck
def tGXs (K : Fr) (W : WX) (g : GXs) : TGs := fun xs σ H Q => ∃ F α ρ μ vs rt, Mem K F H α μ ∧ Slots K F α ρ σ ∧ Reps K F vs xs ∧ SOk K F α (g vs ρ μ) Q rt W
structure DGs (X : Cx) (W : WX) (es : List Expr) (g : GXs) : Prop where
  pgs : PGs X es (tGXs X.K W g)
theorem PGs.of {X : Cx} {e : List Expr} {t t' : TGs} (h : PGs X e t) (i : ∀ v σ H Q, t' v σ H Q → t v σ H Q) : PGs X e t' := ⟨fun pins s σ H v u Q I r hw => h.run pins s σ H v u Q I r (i v σ H Q hw)⟩
/-- o[i] = v: a list's cell -/
def setIx (o i v : DV) (ρ : Rho) (μ : List Cel) : SOut := match o, i, v with
  | .c n, .d (.int k), .d x => (match μ[n]? with
    | some (.lst ds) => (match ixN ds.length k with
      | some j => .nx ρ (μ.set n (.lst (ds.set j x)))
      | none => .stuck)
    | _ => .stuck)
  | _, _, _ => .stuck
def gIx (o i : EX) : GX := fun v ρ μ => (o ρ μ).sbind ρ fun ov μ => (i ρ μ).sbind ρ fun iv μ => setIx ov iv v ρ μ
section
variable {X : Cx} {W : WX} {pos : Pos} {e : Expr} {es : List Expr} {g : GX} {gs : GXs}
theorem dgs_nil : DGs X W [] gsN := ⟨PGs.of pgs_nil fun xs σ H Q ⟨F, α, ρ, μ, vs, rt, m, s, r, o⟩ => by
  cases vs with
  | nil => exact ⟨r, SOk.here o m s⟩
  | cons v vs => exact o.elim⟩
theorem dgs_cons (h : DG X W e g) (hs : DGs X W es gs) (hst : (assignEach (e :: es) X.env).map (·.2) = assign e X.env :: (assignEach es X.env).map (·.2) := by rfl) : DGs X W (e :: es) (gsC g gs) := ⟨PGs.of (pgs_cons h.pg hs.pgs hst) fun xs σ H Q ⟨F, α, ρ, μ, vs, rt, m, s, r, o⟩ => by
  cases vs with
  | nil => exact o.elim
  | cons v vs =>
    obtain ⟨x, xr, e1, r1, r2⟩ := r
    subst e1
    refine ⟨x, xr, rfl, ⟨F, α, ρ, μ, .d v, rt, m, s, r1, SOk.bind o fun ρ1 σ1 F1 α1 μ1 H1 g1 m1 s1 o1 => ?_⟩⟩
    exact ⟨F1, α1, ρ1, μ1, vs, rt, m1, s1, r2.le g1.f, o1⟩⟩
theorem dg_tup {k n : Nat} (hc : X.calm = true) (h : DGs X W es gs) (hn : (assignEach es X.env).length = n := by rfl) (hst : (assignEach es X.env).findIdx? (·.1) = none := by rfl) : DG X W (.Tuple es k pos) (gT n gs) := ⟨PG.of (pg_tup hc h.pgs hn hst) fun x σ H Q ⟨F, α, ρ, μ, v, rt, m, s, r, o⟩ => by
  unfold gT at o
  split at o
  · obtain ⟨z, a, xs, rfl, hx, rr⟩ := r
    split at o
    · rename_i hl
      exact ⟨a, xs, rfl, sqT_le m.fz hx, by rw [← rr.length]; exact hl, F, α, ρ, μ, _, rt, m, s, rr, o⟩
    · exact o.elim
  · exact o.elim⟩
theorem dg_ix {o i : Expr} {xo xi : EX} (ho : DE X W o xo) (hi : DE X W i xi) (ha : ∀ v, assign (.Subscript o i pos) X.env v = (do
      let ov ← holding [v] (eval o X.env)
      let iv ← holding [v, ov] (eval i X.env)
      standAt pos
      holding [v, ov, iv] (setItem ov iv v)
      release [v, ov, iv] []) := by intro _; rfl) : DG X W (.Subscript o i pos) (gIx xo xi) := by
  refine ⟨PG.of (pg_sub ho.pe hi.pe set_list ha) fun x σ H Q ⟨F, α, ρ, μ, v, rt, m, s, r, o⟩ => ?_⟩
  refine tX_mk m s (SOk.ebind s o fun ov ou F1 α1 μ1 H1 g1 m1 r1 o1 => ?_)
  refine tX_mk m1 (s.grow g1) (SOk.ebind (s.grow g1) o1 fun iv iu F2 α2 μ2 H2 g2 m2 r2 o2 => ?_)
  unfold setIx at o2
  split at o2
  · rename_i n k x'
    obtain ⟨a, ha, rfl⟩ := r1.grow g2
    cases r2
    cases q : μ2[n]? with
    | none => rw [q] at o2; exact o2.elim
    | some c =>
      rw [q] at o2
      cases c with
      | lst ds =>
        obtain ⟨h0, z, xs, hx, rr⟩ := m2.ok n _ a q ha
        simp only at o2
        cases e : ixN ds.length k with
        | none => rw [e] at o2; exact o2.elim
        | some j =>
          rw [e] at o2
          have rx : Rep X.K F2 x' x := (r.grow (g1.trans g2))
          refine ⟨a, xs, _, j, rfl, rfl, hx, by rw [← rr.length]; exact e, ?_⟩
          have m3 := m2.write (o := .lst (xs.set j x)) (c := .lst (ds.set j x')) ha h0 ⟨h0, by rw [List.length_set]; exact z, _, upd_same, rr.set rx j⟩
          exact SOk.here o2 m3 (s.grow (g1.trans g2))
      | ins _ _ => exact o2.elim
      | dead => exact o2.elim
      | lv _ => exact o2.elim
  · exact o2.elim
end
def forL (g : GX) (b : SX) : List Dat → SX
  | [], ρ, μ => .nx ρ μ
  | d :: ds, ρ, μ => ((g (.d d) ρ μ).bind b).bind (forL g b ds)
/-- what a for walks: the items -/
abbrev IX := Rho → List Cel → Out (List Dat)
def sFor (it : IX) (g : GX) (b : SX) : SX := fun ρ μ => (it ρ μ).sbind ρ fun ds μ => forL g b ds ρ μ
/-- the iterator J gives the items ds, whatever grows -/
structure Gives (K : Fr) (F : Hp) (J : It) (ds : List Dat) : Prop where
  go : ∀ (i : Nat) (H : Hp), Le F H → i < ds.length → J.go i H
  stop : ∀ (i : Nat) (H : Hp), Le F H → i = ds.length → J.stop i H
  yld : ∀ (i : Nat) (H H' : Hp) (x : V) (F1 : Hp) (α : List Addr) (μ : List Cel), Le F F1 → Mem K F1 H α μ → i < ds.length → J.yld i H x H' → ∃ F2 d, ds[i]? = some d ∧ Grow F1 α F2 α ∧ Mem K F2 H' α μ ∧ Rep K F2 d x
def tIX (K : Fr) (W : WX) (it : IX) : TI := fun σ H R => ∃ F α ρ μ, Mem K F H α μ ∧ Slots K F α ρ σ ∧ (match it ρ μ with
  | .ok ds μ' => ∀ F' α' H' J, Grow F α F' α' → Mem K F' H' α' μ' → Gives K F' J ds → R J H'
  | .raise e μ' => ∀ cls dx F' α' H', Grow F α F' α' → Mem K F' H' α' μ' → ExnRep K F' e cls dx → W cls dx σ H'
  | .stuck => False)
structure DI (X : Cx) (W : WX) (tg iter : Expr) (it : IX) : Prop where
  pi : PI X tg iter (tIX X.K W it)
theorem PI.of {X : Cx} {tg e : Expr} {t t' : TI} (h : PI X tg e t) (i : ∀ σ H R, t' σ H R → t σ H R) : PI X tg e t' := ⟨fun pins s σ H R I hw => h.run pins s σ H R I (i σ H R hw)⟩
theorem ds_for {X : Cx} {W : WX} {pos : Pos} {tg iter : Expr} {body : List Stmt} {it : IX} {g : GX} {b : SX} (hp : PassesOwn (model X.prog X.w) X.A X.env X.xe) (hc : X.calm = true) (hi : DI X W tg iter it) (hg : DG X W tg g) (hb : DSs X W body b)
    (hs : ∀ x, foldedSetIterable iter X.env x = pure x := by intro _; rfl) : DS X W (.For tg iter body [] pos) (sFor it g b) := by
  refine ⟨PS.of (ps_for hp hc hi.pi hg.pg hb.pss hs) fun D σ H ⟨F, α, ρ, μ, m, s, o⟩ => ?_⟩
  have o : SOk X.K F α ((it ρ μ).sbind ρ fun ds μ => forL g b ds ρ μ) D.nx D.rt W := o
  refine ⟨F, α, ρ, μ, m, s, ?_⟩
  cases q : it ρ μ with
  | stuck => rw [q] at o; exact o
  | raise e μ1 => rw [q] at o; exact fun cls dx F1 α1 H1 g1 m1 r => o cls dx σ F1 α1 H1 g1 m1 (s.grow g1) r
  | ok ds μ1 =>
    rw [q] at o
    intro F1 α1 H1 J g1 m1 gv
    have o : SOk X.K F α (forL g b ds ρ μ1) D.nx D.rt W := o
    refine ⟨fun i mm σ H => mm = ds.length - i ∧ i ≤ ds.length ∧ ∃ F2 α2 ρ2 μ2, Le F1 F2 ∧ Mem X.K F2 H α2 μ2 ∧ Slots X.K F2 α2 ρ2 σ ∧ SOk X.K F2 α2 (forL g b (ds.drop i) ρ2 μ2) D.nx D.rt W, ⟨ds.length, by simp, Nat.zero_le _, F1, α1, ρ, μ1, Le.refl _, m1, s.grow g1, by rw [List.drop_zero]; exact SOk.grow g1 o⟩, ?_⟩
    rintro i mm σ H ⟨rfl, hi, F2, α2, ρ2, μ2, l2, m2, s2, o2⟩
    by_cases hlt : i < ds.length
    · refine .inr ⟨gv.go i H (l2.trans m2.fz) hlt, fun σ' H' => ∃ F3 α3 ρ3 μ3, Le F1 F3 ∧ Mem X.K F3 H' α3 μ3 ∧ Slots X.K F3 α3 ρ3 σ' ∧ SOk X.K F3 α3 (forL g b (ds.drop (i + 1)) ρ3 μ3) D.nx D.rt W, fun σ' H' h => ⟨ds.length - (i + 1), by omega, rfl, hlt, h⟩, fun x H' y => ?_⟩
      obtain ⟨F3, d, hd, g3, m3, r3⟩ := gv.yld i H H' x F2 α2 μ2 l2 m2 hlt y
      have ed : ds.drop i = d :: ds.drop (i + 1) := by
        rw [List.drop_eq_getElem_cons hlt]
        rw [List.getElem?_eq_getElem hlt] at hd
        rw [Option.some.inj hd]
      rw [ed] at o2
      have o3 : SOk X.K F3 α2 (((g (.d d) ρ2 μ2).bind b).bind (forL g b (ds.drop (i + 1)))) D.nx D.rt W := SOk.grow g3 o2
      have o4 : SOk X.K F3 α2 ((g (.d d) ρ2 μ2).bind fun ρ μ => (b ρ μ).bind (forL g b (ds.drop (i + 1)))) D.nx D.rt W := by
        cases qq : g (.d d) ρ2 μ2 <;> rw [qq] at o3 <;> exact o3
      refine ⟨F3, α2, ρ2, μ2, .d d, D.rt, m3, s2.grow g3, r3, SOk.bind o4 fun ρ5 σ5 F5 α5 μ5 H5 g5 m5 s5 o5 => ?_⟩
      refine ⟨F5, α5, ρ5, μ5, m5, s5, SOk.bind o5 fun ρ6 σ6 F6 α6 μ6 H6 g6 m6 s6 o6 => ?_⟩
      exact ⟨F6, α6, ρ6, μ6, l2.trans (g3.f.trans (g5.f.trans g6.f)), m6, s6, o6⟩
    · have e : i = ds.length := by omega
      refine .inl ⟨gv.stop i H (l2.trans m2.fz) e, ?_⟩
      rw [e, List.drop_length] at o2
      exact SOk.here o2 m2 s2
def sPar2 (i j : Nat) (as : EXs) : SX := fun ρ μ => (as ρ μ).sbind ρ fun vs μ => match vs with
  | [v, w] => .nx ((ρ.set i (some v)).set j (some w)) μ
  | _ => .stuck
def sPar3 (i j l : Nat) (as : EXs) : SX := fun ρ μ => (as ρ μ).sbind ρ fun vs μ => match vs with
  | [u, v, w] => .nx (((ρ.set i (some u)).set j (some v)).set l (some w)) μ
  | _ => .stuck
section
variable {X : Cx} {W : WX} {pos : Pos} {xs : EXs}
theorem ds_par2 (i j : Nat) {x y : Str} {a b : Expr} {px py pt : Pos} {kt k2 pt2} (hc : X.calm = true) (hN : X.N.Nodup) (ha : DA X W [a, b] xs) (hij : i ≠ j := by decide) (hi : X.N[i]? = some x := by rfl) (hj : X.N[j]? = some y := by rfl)
    (hx : X.env.scope.names.lookup x = some .local := by rfl) (hy : X.env.scope.names.lookup y = some .local := by rfl)
    (hw : swappedStores [.Tuple [.Name x px, .Name y py] kt pt] (.Tuple [a, b] k2 pt2) X.env = pure (some [x, y]) := by rfl)
    (hs : swapsWithSole [.Tuple [.Name x px, .Name y py] kt pt] (.Tuple [a, b] k2 pt2) pos.line X.env = pure false := by rfl) : DS X W (.Assign [.Tuple [.Name x px, .Name y py] kt pt] (.Tuple [a, b] k2 pt2) pos) (sPar2 i j xs) := by
  refine ⟨PS.of (ps_par hc hN hi hj hij hx hy ha.pa hw hs) fun D σ H ⟨F, α, ρ, μ, m, s, o⟩ => tX_mk m s (SOk.ebind (R := RVs X.K) s o fun v u F1 α1 μ1 H1 g1 m1 r1 o1 => ?_)⟩
  split at o1
  · obtain ⟨v1, v2, rfl, r1, r2⟩ : ∃ v1 v2, u = [v1, v2] ∧ RepV X.K F1 α1 _ v1 ∧ RepV X.K F1 α1 _ v2 := by
      obtain ⟨v1, _, rfl, q1, v2, _, rfl, q2, e⟩ := r1
      cases (show _ = [] from e)
      exact ⟨v1, v2, rfl, q1, q2⟩
    exact ⟨v1, v2, rfl, SOk.here o1 m1 (((s.grow g1).set i r1).set j r2)⟩
  · exact o1.elim
end
end DL
set_option Elab.async false
set_option linter.all false
set_option maxRecDepth 100000
set_option maxHeartbeats 4000000
namespace DL
open PySem PySem.Spec PyProof.Rows L2
/-- no cell names a cell at n or behind -/
def refsLt (n : Nat) : List (Nat × DV) → Bool
  | [] => true
  | (_, .d _) :: r => refsLt n r
  | (_, .c j) :: r => decide (j < n) && refsLt n r
def dvLt (n : Nat) : DV → Bool
  | .d _ => true
  | .c j => decide (j < n)
def celLt (n : Nat) : Cel → Bool
  | .lst _ => true
  | .dead => true
  | .ins _ fs => refsLt n fs
  | .lv ds => ds.all (dvLt n)
def cutM (n : Nat) (μ : List Cel) : List Cel := if (μ.take n).all (celLt n) = true then μ.take n else μ
def datF : List (Nat × DV) → Option (List (Nat × Dat))
  | [] => some []
  | (f, .d x) :: r => (datF r).map ((f, x) :: ·)
  | (_, .c _) :: _ => none
/-- what a def hands back: frz, a cell is frozen -/
def finV (frz : Bool) (n : Nat) (v : DV) (μ : List Cel) : Out DV := match v with
  | .d x => .ok (.d x) (cutM n μ)
  | .c j => (match frz with
    | false => .ok (.c j) μ
    | true => (match μ[j]? with
      | some (.lst ds) => .ok (.d (.lst ds)) (cutM n (μ.set j .dead))
      | some (.ins c fs) => (match datF fs with
        | some gs => .ok (.d (.ins c gs)) (cutM n (μ.set j .dead))
        | none => .stuck)
      | _ => .stuck))
def fin (frz : Bool) (n : Nat) : SOut → Out DV
  | .nx _ μ => .ok (.d .non) (cutM n μ)
  | .rt v μ => finV frz n v μ
  | .raise e _ μ => .raise e (cutM n μ)
  | .stuck => .stuck
def rho0 (N : Nat) (ds : List DV) : Rho := ds.map some ++ List.replicate (N - ds.length) none
def fnG (frz : Bool) (N : Nat) (b : SX) : Gn := fun ds μ => fin frz μ.length (b (rho0 N ds) μ)
section
variable {K : Fr} {F F' H H' : Hp} {α α' : List Addr} {μ μ' : List Cel}
theorem repVF_cut {n : Nat} : ∀ {fs : List (Nat × DV)} {fv : List (Str × V)}, refsLt n fs = true → RepVF K F α fs fv → RepVF K F (α.take n) fs fv
  | [], _, _, h => h
  | (f, .d x) :: r, _, e, ⟨v, t, e1, h1, h2⟩ => ⟨v, t, e1, h1, repVF_cut (by simpa [refsLt] using e) h2⟩
  | (f, .c j) :: r, _, e, ⟨v, t, e1, ⟨a, ha, h1⟩, h2⟩ => by
    have e' : j < n ∧ refsLt n r = true := by simpa [refsLt] using e
    exact ⟨v, t, e1, ⟨a, by rw [List.getElem?_take_of_lt e'.1]; exact ha, h1⟩, repVF_cut e'.2 h2⟩
theorem repVs_cut {n : Nat} : ∀ {ds : List DV} {xs : List V}, ds.all (dvLt n) = true → RepVs K F α ds xs → RepVs K F (α.take n) ds xs
  | [], _, _, h => h
  | .d x :: r, _, e, ⟨v, t, e1, h1, h2⟩ => ⟨v, t, e1, h1, repVs_cut (by simpa [dvLt] using e) h2⟩
  | .c j :: r, _, e, ⟨v, t, e1, ⟨a, ha, h1⟩, h2⟩ => by
    rw [List.all_cons, Bool.and_eq_true] at e
    have e' : j < n := of_decide_eq_true e.1
    exact ⟨v, t, e1, ⟨a, by rw [List.getElem?_take_of_lt e']; exact ha, h1⟩, repVs_cut e.2 h2⟩
theorem Mem.cut {n : Nat} (m : Mem K F H α μ) (h : (μ.take n).all (celLt n) = true) : Mem K F H (α.take n) (μ.take n) := by
  refine ⟨m.fz, by simp [m.len], m.nd.sublist (List.take_sublist _ _), fun k c a h1 h2 => ?_⟩
  have hk : k < n := by
    have := (List.getElem?_eq_some_iff.mp h1).1
    rw [List.length_take] at this
    omega
  have hc : celLt n c = true := (List.all_eq_true.mp h) c (List.mem_of_getElem? h1)
  rw [List.getElem?_take_of_lt hk] at h1 h2
  have z := m.ok k c a h1 h2
  cases c with
  | lst ds => exact z
  | dead => exact z
  | ins c fs =>
    obtain ⟨h0, dx, fv, q, r⟩ := z
    exact ⟨h0, dx, fv, q, repVF_cut hc r⟩
  | lv ds =>
    obtain ⟨h0, z0, xs, q, r⟩ := z
    exact ⟨h0, z0, xs, q, repVs_cut hc r⟩
theorem Mem.cutM {n : Nat} (m : Mem K F' H α' μ') (g : Grow F α F' α') (hn : n = α.length) : ∃ α2, Grow F α F' α2 ∧ Mem K F' H α2 (cutM n μ') := by
  unfold DL.cutM
  split
  · rename_i h
    refine ⟨α'.take n, ⟨g.f, [], ?_⟩, m.cut h⟩
    obtain ⟨t, e⟩ := g.a
    rw [e, hn, List.take_left', List.append_nil]
    rfl
  · exact ⟨α', g, m⟩
theorem repF_of : ∀ {fs : List (Nat × DV)} {fv : List (Str × V)} {gs : List (Nat × Dat)}, RepVF K F α fs fv → datF fs = some gs → RepF K F gs fv
  | [], _, _, h, e => by cases e; exact h
  | (f, .d x) :: r, _, _, ⟨v, t, e1, h1, h2⟩, e => by
    obtain ⟨l, e2, e3⟩ := Option.map_eq_some_iff.mp (show (datF r).map ((f, x) :: ·) = some _ from e)
    subst e3
    exact ⟨v, t, e1, h1, repF_of h2 e2⟩
  | (_, .c _) :: _, _, _, _, e => by cases e
/-- from what the caller wants to what the body is to reach -/
theorem fin_ok {frz : Bool} {Q : VK} {E : XK} {o : SOut} (m : Mem K F H α μ) (h : OutOk (RV K) K F α (fin frz μ.length o) Q E) : SOk K F α o (fun _ H' => Q .non H') Q (fun cls dx _ H' => E cls dx H') := by
  have hn : μ.length = α.length := m.len.symm
  cases o with
  | stuck => exact h
  | nx ρ μ1 =>
    intro σ' F1 α1 H1 g1 m1 s1
    obtain ⟨α2, g2, m2⟩ := m1.cutM g1 hn
    exact h .non F1 α2 H1 g2 m2 rfl
  | raise e ρ μ1 =>
    intro cls dx σ' F1 α1 H1 g1 m1 s1 r1
    obtain ⟨α2, g2, m2⟩ := m1.cutM g1 hn
    exact h cls dx F1 α2 H1 g2 m2 r1
  | rt v μ1 =>
    intro u F1 α1 H1 g1 m1 r1
    have h : OutOk (RV K) K F α (finV frz μ.length v μ1) Q E := h
    unfold finV at h
    cases v with
    | d x =>
      obtain ⟨α2, g2, m2⟩ := m1.cutM g1 hn
      exact h u F1 α2 H1 g2 m2 r1
    | c j =>
      cases frz with
      | false => exact h u F1 α1 H1 g1 m1 r1
      | true =>
        simp only at h
        cases q : μ1[j]? with
        | none => rw [q] at h; exact h.elim
        | some c =>
          rw [q] at h
          obtain ⟨a, ha, rfl⟩ := r1
          cases c with
          | dead => exact h.elim
          | lv _ => exact h.elim
          | lst ds =>
            obtain ⟨h0, z, xs, hx, rr⟩ := m1.ok j _ a q ha
            obtain ⟨m2, g2⟩ := m1.freeze ha h0 hx
            obtain ⟨α2, g3, m3⟩ := m2.cutM (g1.trans g2) hn
            exact h (.ref a) _ α2 H1 g3 m3 ⟨z, a, xs, rfl, upd_same, rr.le g2.f⟩
          | ins c fs =>
            obtain ⟨h0, dx, fv, hx, rr⟩ := m1.ok j _ a q ha
            cases e : datF fs with
            | none => simp only [e] at h; exact h.elim
            | some gs =>
              simp only [e] at h
              obtain ⟨m2, g2⟩ := m1.freeze ha h0 hx
              obtain ⟨α2, g3, m3⟩ := m2.cutM (g1.trans g2) hn
              exact h (.ref a) _ α2 H1 g3 m3 ⟨a, dx, fv, rfl, upd_same, RepF.le g2.f (repF_of rr e)⟩
theorem slots0 {N : List Str} {ds : List DV} {vs : List V} (r : RepVs K F α ds vs) : Slots K F α (rho0 N.length ds) (L2.start N vs) := by
  have hl := r.length
  refine ⟨by unfold rho0 L2.start; simp [hl], fun i v h => ?_⟩
  unfold rho0 at h
  by_cases hi : i < ds.length
  · rw [List.getElem?_append_left (by simpa using hi), List.getElem?_map] at h
    cases e : ds[i]? with
    | none => rw [e] at h; cases h
    | some d =>
      rw [e] at h
      cases h
      obtain ⟨x, hx, rx⟩ := r.got e
      refine ⟨x, ?_, rx⟩
      unfold L2.start
      rw [List.getElem?_append_left (by simp; omega), List.getElem?_map, hx]
      rfl
  · rw [List.getElem?_append_right (by simpa using hi), List.getElem?_replicate] at h
    split at h <;> cases h
end
/-- the context of a def's body -/
abbrev cxB (P : Program) (w : World) (K : Fr) (mg : Str → Option Value) (base : Heap) (N : List Str) (qual : Str) (scope : Scope) (f : Addr) (cd : Value) (A : Around) (outer : List Env) (s : Shared) (H : Hp) (E : XK) : Cx := cxOf (L2.CX P w) P w K mg base N qual scope f cd A outer s H E
abbrev WB (E : XK) : WX := fun cls d _ H => E cls d H
section
variable {P : Program} {w : World} {K : Fr} {mg : Str → Option Value} {base : Heap} {N : List Str} {qual : Str} {scope : Scope} {f : Addr} {cd : Value} {A : Around} {outer : List Env} {s : Shared} {H : Hp} {E : XK}
theorem takesB : Takes (cxB P w K mg base N qual scope f cd A outer s H E) (WB E) :=
  takes_of (X := cxB P w K mg base N qual scope f cd A outer s H E) (E₁ := fun e' s'' => L2.CX P w outer H s E e' s'') rfl rfl rfl rfl
theorem passB : PassesOwn (model P w) (cxB P w K mg base N qual scope f cd A outer s H E).A (cxB P w K mg base N qual scope f cd A outer s H E).env (cxB P w K mg base N qual scope f cd A outer s H E).xe :=
  passes_of (X := cxB P w K mg base N qual scope f cd A outer s H E) rfl
end
/-- room, and no repr is on its way -/
structure RoomG (k : Nat) (A : Around) : Prop where
  r : Room k A
  g : A.guards = some []
theorem RoomG.mono {j k : Nat} {A : Around} (r : RoomG k A) (h : j ≤ k) : RoomG j A := ⟨r.r.mono h, r.g⟩
theorem RoomG.deeper {k : Nat} {A : Around} (r : RoomG (k + 1) A) (env : Env) : RoomG k (A.deeper env) := ⟨r.r.deeper env, r.g⟩
theorem RoomG.in1 {k : Nat} {A : Around} (r : RoomG (k + 1) A) : RoomG k A.in1 := ⟨r.r.in1, r.g⟩
theorem RoomG.make {k : Nat} {A : Around} (r : RoomG (k + 1) A) (C : Addr) (us : List Value) (kw : List (Str × Value)) : RoomG k (A.under (.builtin "type.__call__" ⟨.ref C :: us, kw⟩)) :=
  ⟨r.r.make C us kw, by simp [Around.under, Code.guards, Code.isGuard, guardIds, pushGuards, r.g]⟩
/-- the bodies' condition -/
def BodyOk (P : Program) (w : World) (K : Fr) (mg : Str → Option Value) (base : Heap) (k : Nat) (N : List Str) (qual : Str) (scope : Scope) (f : Addr) (body : List Stmt) (b : SX) : Prop :=
  ∀ (cd : Value) (A : Around) (outer : List Env) (s : Shared) (H : Hp) (E : XK), RoomG k (cxB P w K mg base N qual scope f cd A outer s H E).A → DSs (cxB P w K mg base N qual scope f cd A outer s H E) (WB E) body b
/-- a callable thing at f: n positional arguments, the keywords ks, g what it computes -/
def CD (P : Program) (w : World) (K : Fr) (mg : Str → Option Value) (base : Heap) (k : Nat) (f : Value) (n : Nat) (ks : List Str) (g : Gn) : Prop :=
  ∀ (A : Around) (outer : List Env) (s : Shared) (H : Hp) (us ws : List Value) (vs zs : List V) (Q : VK) (E : XK) (F : Hp) (α : List Addr) (μ : List Cel) (ds : List DV), RoomG k A → Env0 P w K mg base A outer s H → Vals vs us → Vals zs ws → vs.length = n → zs.length = ks.length →
    Mem K F H α μ → RepVs K F α ds (vs ++ zs) → OutOk (RV K) K F α (g ds μ) Q E → codeAny (model P w) A (.call f ⟨us, ks.zip ws⟩) (CR (L2.CX P w) outer P w H s Q E) s
theorem CD.mono {P : Program} {w : World} {K : Fr} {mg : Str → Option Value} {base : Heap} {j k : Nat} {f : Value} {n : Nat} {ks : List Str} {g : Gn} (c : CD P w K mg base j f n ks g) (h : j ≤ k) : CD P w K mg base k f n ks g :=
  fun A outer s H us ws vs zs Q E F α μ ds hr => c A outer s H us ws vs zs Q E F α μ ds (hr.mono h)
/-- the arrangement of arguments -/
def ArrOk (K : Fr) (n m l : Nat) (gD : List DV → List DV) (gV : List V → List V → List V) : Prop := ∀ (F : Hp) (α : List Addr) (ds : List DV) (vs zs : List V), vs.length = n → zs.length = m → RepVs K F α ds (vs ++ zs) → RepVs K F α (gD ds) (gV vs zs) ∧ (gV vs zs).length = l
section
variable {P : Program} {w : World} {K : Fr} {mg : Str → Option Value} {base : Heap} {k : Nat} {n : Nat} {ps ks : List Str} {f : Addr} {fd : FuncData} {g : Gn} {gg : List Value → List Value → List Value} {gV : List V → List V → List V} {gD : List DV → List DV}
/-- THE RULE for a def: its body b -/
theorem CD.fn (frz : Bool) {N : List Str} {name qual : Str} {params : Arguments} {body : List Stmt} {scope : Scope} {dvs : List V} {kws : List (Str × V)} {b : SX} (F : FunD K name qual params body scope dvs kws f fd) (S : FnScope N ps scope)
    (hbody : BodyOk P w K mg base k N qual scope f body b) (hb : KBn K fd ps n ks gg gV) (hg : ArrOk K n ks.length ps.length gD gV) : CD P w K mg base (k + 1) (.ref f) n ks (fun ds μ => fnG frz N.length b (gD ds) μ) := by
  intro A outer s H us ws vs zs Q E F0 α μ ds hr e0 rv rz l1 l2 m r o
  obtain ⟨oc, od, dV, kV, doc, pm, an, cdv, ct, osl, rfl, lk, hcd, _, _⟩ := F.ex
  obtain ⟨r2, l3⟩ := hg F0 α ds vs zs l1 l2 r
  have KX : K.In s.heap := e0.mod.kin.keeps fun b o e => (e0.bs b o e).1
  have lim : s.heap.NoLimit := e0.mod.nolimit.keeps fun b o e => (e0.bs b o e).1
  have rel : Vals (gV vs zs) (gg us ws) := hb.rel rv rz
  have hkind : ∀ y ∈ ps.zip (gg us ws), scope.names.lookup y.1 = some .local ∨ (scope.names.lookup y.1 = some .cell ∧ ((cellsFrom (s.heap.objs.size + 1) scope.names []).lookup y.1).isSome = true) := fun y hy => by
    rcases S.par y.1 (List.of_mem_zip hy).1 with q | q
    · exact .inl q
    · exact .inr ⟨q, PySem.W.cellsFrom_some _ _ _ (.inl q)⟩
  refine codeAny_call_function hr.r.depth (KX _ _ lk) rfl S.co S.gen rfl (PySem.W.codeRec_of KX hcd) (hb.to s us ws KX (rv.length.symm.trans l1) (rz.length.symm.trans l2) _ _ _ _ ?_)
  refine wpAny_newFunctionEnv_cells S.kind hkind fun env he s1 x => ?_
  subst he
  refine ⟨lim.keeps x.toInCall.keep, codeAny_func ?_⟩
  have hbd := hbody cdv A outer s H E (hr.deeper _)
  have I : Inv (cxB P w K mg base N qual scope f cdv A outer s H E) [] (L2.start N (gV vs zs)) H s1 := inv_start S hr.r.hd e0 l3 rel x
  refine wpAny_mono (hbd.pss.run [] s1 _ H { nx := fun _ H' => Q .non H', rt := Q } I ⟨F0, α, _, μ, m, slots0 r2, fin_ok (frz := frz) m o⟩) (fun fl s' hs => ?_) fun e s' hs => hs
  have done : ∀ {σ' : St} {H' : Hp} {v : V} {u : Value}, Inv (cxB P w K mg base N qual scope f cdv A outer s H E) [] σ' H' s' → RelV v u → Q v H' → CE outer P w H s Q u s' :=
    fun {σ' H' v u} J rv q => ⟨v, H', J.os, J.bare, J.base, J.hok, rv, q⟩
  cases fl with
  | ret u =>
    obtain ⟨v, σ', H', J, rv, q⟩ := hs
    exact done J rv q
  | next =>
    obtain ⟨σ', H', J, q⟩ := hs
    exact done (v := V.non) (u := Value.none) J rfl q
  | brk =>
    obtain ⟨_, _, _, q⟩ := hs
    exact False.elim q
  | cont =>
    obtain ⟨_, _, _, q⟩ := hs
    exact False.elim q
/-- all arguments given by position -/
theorem kbn0 (b : Binds K fd ps []) : KBn K fd ps ps.length [] (fun us _ => us) (fun vs _ => vs) := by
  refine ⟨fun s us ws X l1 l2 => ?_, fun r _ => r⟩
  cases ws with
  | cons _ _ => cases l2
  | nil =>
    have z := b s us X (by rw [List.append_nil]; exact l1)
    rw [List.append_nil] at z
    exact z
theorem arr0 {n : Nat} : ArrOk K n 0 n (fun ds => ds) (fun vs _ => vs) := by
  intro F α ds vs zs l1 l2 r
  cases zs with
  | cons _ _ => cases l2
  | nil => rw [List.append_nil] at r; exact ⟨r, l1⟩
/-- .. all arguments written -/
theorem CD.pos (frz : Bool) {N : List Str} {name qual : Str} {params : Arguments} {body : List Stmt} {scope : Scope} {dvs : List V} {kws : List (Str × V)} {b : SX} (F : FunD K name qual params body scope dvs kws f fd) (S : FnScope N ps scope)
    (hbody : BodyOk P w K mg base k N qual scope f body b) (hb : Binds K fd ps []) : CD P w K mg base (k + 1) (.ref f) ps.length [] (fnG frz N.length b) := CD.fn frz F S hbody (kbn0 hb) arr0
end
/-- a callable within a body -/
def CallX (X : Cx) (W : WX) (f : Value) (n : Nat) (ks : List Str) (g : Gn) : Prop :=
  ∀ (pins : List (Addr × Obj)) (σ : St) (H : Hp) (s : Shared) (us ws : List Value) (vs zs : List V) (Q : VK) (F : Hp) (α : List Addr) (μ : List Cel) (ds : List DV), Inv X pins σ H s → Vals vs us → Vals zs ws → vs.length = n → zs.length = ks.length →
    Mem X.K F H α μ → RepVs X.K F α ds (vs ++ zs) → OutOk (RV X.K) X.K F α (g ds μ) Q (fun cls dx H' => W cls dx σ H') → wpAny (model X.prog X.w) X.A (call f us (ks.zip ws)) (EP X pins σ Q) X.xe s
section
variable {X : Cx} {W : WX} {k n : Nat} {f : Value} {ks : List Str} {g : Gn}
/-- the result of a call at the body's own place -/
theorem cr_end {pins : List (Addr × Obj)} {σ : St} {H : Hp} {s : Shared} {Q : VK} (tk : Takes X W) (I : Inv X pins σ H s) {r : Result} {s' : Shared} (hq : CR (L2.CX X.prog X.w) X.stack X.prog X.w H s Q (fun cls dx H' => W cls dx σ H') r s') :
    match r with
    | .ok fl => (match fl with
      | .ret u => EP X pins σ Q u s'
      | _ => False)
    | .error e => X.xe e s' := by
  cases r with
  | error e => exact tk e s' (XE.of_call I (fun _ _ _ h => h) hq)
  | ok fl =>
    cases fl with
    | ret u => exact I.after hq
    | next => exact False.elim hq
    | brk => exact False.elim hq
    | cont => exact False.elim hq
theorem CD.x (C : CD X.prog X.w X.K X.mg X.base k f n ks g) (hr : RoomG k X.A) (tk : Takes X W) : CallX X W f n ks g := by
  intro pins σ H s us ws vs zs Q F α μ ds I rv rz l1 l2 m r o
  refine wpAny_call (codeAny_mono (C X.A X.stack s H us ws vs zs Q (fun cls dx H' => W cls dx σ H') F α μ ds hr I.env0 rv rz l1 l2 m r o) fun r s' hq => ?_)
  have z := cr_end tk I hq
  cases r with
  | error e => exact z
  | ok fl =>
    cases fl with
    | ret u => exact z
    | next => exact False.elim z
    | brk => exact False.elim z
    | cont => exact False.elim z
end
def nonV (v : DV) (f : Out DV) : Out DV := match v with
  | .d .non => f
  | _ => .stuck
/-- a new instance: a cell, given to g (the __init__) ahead of the arguments -/
def mkG (frz : Bool) (c : Nat) (g : Gn) : Gn := fun ds μ => (g (.c μ.length :: ds) (μ ++ [.ins c []])).bind fun v μ' => nonV v (finV frz μ.length (.c μ.length) μ')
section
variable {X : Cx} {W : WX} {k n : Nat} {c : Nat} {g : Addr} {ks : List Str} {gi : Gn}
theorem CD.mk (frz : Bool) (M : Mk X.K (He.ga X.K (clsNm c)) g) (C : CD X.prog X.w X.K X.mg X.base k (.ref g) (n + 1) ks gi) (hr : RoomG (k + 1) X.A) (tk : Takes X W) : CallX X W (.ref (He.ga X.K (clsNm c))) n ks (mkG frz c gi) := by
  intro pins σ H s us ws vs zs Q F α μ ds I rv rz l1 l2 m r o
  have I2 := Inv.made (C := He.ga X.K (clsNm c)) I
  have n1 : H (s.heap.objs.size + 1) = none := I.hok.fresh (Nat.le_succ _)
  have n2 : H s.heap.objs.size = none := I.hok.fresh (Nat.le_refl _)
  have ne : s.heap.objs.size ≠ s.heap.objs.size + 1 := Nat.ne_of_lt (Nat.lt_succ_self _)
  generalize hp : s.heap.objs.size + 1 = p at I2 n1 ne
  generalize hd : s.heap.objs.size = d at I2 n2 ne
  have m1 := m.more (Le.new (o := .own p) n2)
  have np : (upd H d (.own p)) p = none := by rw [upd_ne (Ne.symm ne)]; exact n1
  obtain ⟨m2, g2⟩ := m1.cell (p := p) (o := .ins (He.ga X.K (clsNm c)) d []) (c := .ins c []) np ⟨(m1.fresh np).1, d, [], upd_same, rfl⟩
  have rs : RepV X.K F (α ++ [p]) (.c μ.length) (.ref p) := ⟨p, by rw [← m.len]; simp, rfl⟩
  have r1 : Vals (V.ref p :: vs) (Value.ref p :: us) := .cons rfl rv
  have rr : RepVs X.K F (α ++ [p]) (.c μ.length :: ds) ((V.ref p :: vs) ++ zs) := ⟨_, _, rfl, rs, r.grow g2⟩
  have o1 : OutOk (RV X.K) X.K F (α ++ [p]) (gi (.c μ.length :: ds) (μ ++ [.ins c []])) (fun v H' => v = .non ∧ Q (.ref p) H') (fun cls dx H' => W cls dx σ H') := by
    have o : OutOk (RV X.K) X.K F α ((gi (.c μ.length :: ds) (μ ++ [.ins c []])).bind fun v μ' => nonV v (finV frz μ.length (.c μ.length) μ')) Q (fun cls dx H' => W cls dx σ H') := o
    cases e : gi (.c μ.length :: ds) (μ ++ [.ins c []]) with
    | stuck => rw [e] at o; exact o
    | raise ex μ1 => rw [e] at o; exact fun cls dx F2 α2 H2 gg mm r => o cls dx F2 α2 H2 (g2.trans gg) mm r
    | ok v μ1 =>
      rw [e] at o
      intro u F1 α1 H1 g1 m3 r3
      have o : OutOk (RV X.K) X.K F α (nonV v (finV frz μ.length (.c μ.length) μ1)) Q (fun cls dx H' => W cls dx σ H') := o
      unfold nonV at o
      split at o
      case h_2 => exact o.elim
      cases r3
      refine ⟨rfl, ?_⟩
      have z := fin_ok (K := X.K) (F := F) (H := H) (α := α) (μ := μ) (frz := frz) (o := .rt (.c μ.length) μ1) (Q := Q) (E := fun cls dx H' => W cls dx σ H') m o
      exact z (.ref p) F1 α1 H1 (g2.trans g1) m3 (rs.grow g1)
  refine wpAny_call (make_map (f := g) I.kIn M.makes M.init (beq_iff_eq.mp M.fn) ?_)
  rw [hp, hd]
  refine codeAny_mono (C _ X.stack _ _ (Value.ref p :: us) ws (V.ref p :: vs) zs _ (fun cls dx H' => W cls dx σ H') F (α ++ [p]) _ _ (hr.make _ us (ks.zip ws)) (I2.env0.make _ us (ks.zip ws)) r1 rz (by simp [l1]) l2 m2 rr o1) fun r s' hq => ?_
  cases r with
  | error e => exact tk e s' (XE.of_call I2 (fun _ _ _ h => h) hq)
  | ok fl =>
    cases fl with
    | ret u =>
      obtain ⟨v, H', I3, rv3, ev, q3⟩ := I2.after hq
      subst ev
      exact ⟨rv3, ⟨V.ref p, H', I3, rfl, q3⟩⟩
    | next => exact False.elim hq
    | brk => exact False.elim hq
    | cont => exact False.elim hq
end
end DL
set_option Elab.async false
set_option linter.all false
set_option maxRecDepth 100000
set_option maxHeartbeats 4000000
namespace DL
open PySem PySem.Spec PyProof.Rows L2
def eCall (n : Nat) (g : Gn) (as : EXs) : EX := fun ρ μ => (as ρ μ).bind fun xs μ => if xs.length = n then g xs μ else .stuck
def eCallK (n m : Nat) (g : Gn) (as zs : EXs) : EX := fun ρ μ => (as ρ μ).bind fun xs μ => (zs ρ μ).bind fun ys μ => if xs.length = n ∧ ys.length = m then g (xs ++ ys) μ else .stuck
structure DK (X : Cx) (W : WX) (kws : List Keyword) (x : EXs) : Prop where
  pk : PK X kws (tDs X.K W x)
theorem PK.of {X : Cx} {es : List Keyword} {t t' : TA} (h : PK X es t) (i : ∀ σ H Q, t' σ H Q → t σ H Q) : PK X es t' := ⟨fun pos pins s σ H Q I hw => h.run pos pins s σ H Q I (i σ H Q hw)⟩
section
variable {X : Cx} {W : WX} {pos p kpos : Pos} {e : Expr} {es : List Expr} {kws : List Keyword} {x : EX} {xs zs : EXs} {f : Value} {n : Nat} {ks : List Str} {g : Gn} {nm : Option Str}
theorem dk_nil : DK X W [] as0 := ⟨PK.of pk_nil fun σ H Q ⟨F, α, ρ, μ, m, s, o⟩ => OutOk.here (R := RVs X.K) o m rfl⟩
theorem dk_cons (ha : DE X W e x) (hr : DK X W kws xs) : DK X W (⟨nm, e, kpos⟩ :: kws) (as1 x xs) := by
  refine ⟨PK.of (pk_cons ha.pe hr.pk) fun σ H Q h => ?_⟩
  refine tX_bind (f := fun ρ x μ => (xs ρ μ).bind fun y μ => .ok (x :: y) μ) h fun F α ρ μ v u H1 m s rv o => ?_
  refine ⟨F, α, ρ, μ, m, s, ?_⟩
  have o2 : OutOk (RVs X.K) X.K F α ((xs ρ μ).bind fun y μ => .ok (v :: y) μ) Q (fun cls dx H' => W cls dx σ H') := o
  cases e : xs ρ μ with
  | ok v2 μ2 =>
    rw [e] at o2
    exact fun u2 F2 α2 H2 g2 m2 r2 => OutOk.here (R := RVs X.K) (OutOk.grow g2 o2) m2 ⟨u, u2, rfl, rv.grow g2, r2⟩
  | raise ex μ2 => rw [e] at o2; exact o2
  | stuck => rw [e] at o2; exact o2
/-- what a plain call wants of the heap behind its arguments -/
def tCx (X : Cx) (W : WX) (n : Nat) (g : Gn) (σ : St) (H : Hp) (vs : List V) (Q : VK) : Prop := vs.length = n ∧ ∃ F α μ ds, Mem X.K F H α μ ∧ RepVs X.K F α ds vs ∧ OutOk (RV X.K) X.K F α (g ds μ) Q (fun cls dx H' => W cls dx σ H')
theorem to_tCx {σ : St} {H : Hp} {Q : VK} (h : tD X.K W (eCall n g xs) σ H Q) : tDs X.K W xs σ H (fun vs H1 => tCx X W n g σ H1 vs Q) := by
  refine tX_bind (f := fun ρ x μ => if x.length = n then g x μ else .stuck) h fun F α ρ μ v u H1 m s rv o => ?_
  by_cases hl : v.length = n
  · simp only [hl, if_true] at o
    exact ⟨by rw [← rv.length]; exact hl, F, α, μ, v, m, rv, o⟩
  · simp only [hl, if_false] at o
    exact o.elim
theorem run_cx {pins : List (Addr × Obj)} {σ : St} {H : Hp} {s : Shared} {us : List Value} {vs : List V} {Q : VK} (C : CallX X W f n [] g) (I : Inv X pins σ H s) (r : Vals vs us) (h : tCx X W n g σ H vs Q) : wpAny (model X.prog X.w) X.A (call f us) (EP X pins σ Q) X.xe s := by
  obtain ⟨l, F, α, μ, ds, m, rr, o⟩ := h
  exact C pins σ H s us [] vs [] Q F α μ ds I r .nil l rfl m (by rw [List.append_nil]; exact rr) o
variable {y : Str}
/-- f(e, ..), f a global -/
theorem de_call (C : CallX X W f n [] g) (hg : Gl X y) (hm : X.mg y = some f) (hk : PySem.W.keepIn X.K f = true) (ha : DA X W (e :: es) xs) (hdb : (y == ("__debug__" : Str)) = false := by decide)
    (he : starEach (e :: es) X.env = (false, eval e X.env) :: starEach es X.env := by rfl) (hpl : (backTo pos (starEach es X.env)).any (·.1) = false := by rfl) : DE X W (.Call (.Name y p) (e :: es) [] pos) (eCall n g xs) := by
  refine ⟨⟨fun pins s σ H Q I h => ?_⟩⟩
  refine wpAny_Call_Name_kw (ld_glob I hg hm ?_ hdb)
  refine PySem.W.callWith_K (h₀ := X.base) I.ok.mod.kin hk (thn (ha.pa.run pos pins s σ H _ I (to_tCx h)) fun us s1 ⟨vs, H1, I1, r, q⟩ => ⟨I1.kIn, ?_⟩) he hpl
  exact run_cx C I1 r q
/-- f() -/
theorem de_call0 (C : CallX X W f 0 [] g) (hg : Gl X y) (hm : X.mg y = some f) (hk : PySem.W.keepIn X.K f = true) (hdb : (y == ("__debug__" : Str)) = false := by decide) : DE X W (.Call (.Name y p) [] [] pos) (eCall 0 g as0) := by
  refine ⟨⟨fun pins s σ H Q I h => ?_⟩⟩
  obtain ⟨F, α, ρ, μ, m, sl, o⟩ := h
  refine wpAny_Call_Name_kw (ld_glob I hg hm ?_ hdb)
  exact PySem.W.callWith_K0 I.kIn hk (run_cx (us := []) C I .nil ⟨rfl, F, α, μ, [], m, rfl, o⟩)
def tCxK (X : Cx) (W : WX) (n m : Nat) (g : Gn) (σ : St) (H : Hp) (vs zs : List V) (Q : VK) : Prop := vs.length = n ∧ zs.length = m ∧ ∃ F α μ ds, Mem X.K F H α μ ∧ RepVs X.K F α ds (vs ++ zs) ∧ OutOk (RV X.K) X.K F α (g ds μ) Q (fun cls dx H' => W cls dx σ H')
theorem repVs_app {K : Fr} {F : Hp} {α : List Addr} : ∀ {ds es : List DV} {xs ys : List V}, RepVs K F α ds xs → RepVs K F α es ys → RepVs K F α (ds ++ es) (xs ++ ys)
  | [], _, _, _, h, t => by cases (show _ = [] from h); exact t
  | _ :: _, _, _, _, ⟨x, r, h1, h2, h3⟩, t => by subst h1; exact ⟨x, _, rfl, h2, repVs_app h3 t⟩
theorem to_tCxK {σ : St} {H : Hp} {Q : VK} {m : Nat} (h : tD X.K W (eCallK n m g xs zs) σ H Q) : tDs X.K W xs σ H (fun vs H1 => tDs X.K W zs σ H1 fun ws H2 => tCxK X W n m g σ H2 vs ws Q) := by
  refine tX_bind (f := fun ρ x μ => (zs ρ μ).bind fun ys μ => if x.length = n ∧ ys.length = m then g (x ++ ys) μ else .stuck) h fun F α ρ μ v u H1 mm s rv o => ?_
  refine tX_mk mm s (OutOk.bind o fun w u2 F2 α2 μ2 H2 g2 m2 r2 o2 => ?_)
  by_cases hl : v.length = n ∧ w.length = m
  · simp only [hl, and_self, if_true] at o2
    exact ⟨by rw [← rv.length]; exact hl.1, by rw [← r2.length]; exact hl.2, F2, α2, μ2, _, m2, repVs_app (rv.grow g2) r2, o2⟩
  · simp only [hl, if_false] at o2
    exact o2.elim
theorem run_cxk {pins : List (Addr × Obj)} {σ : St} {H : Hp} {s : Shared} {us ws : List Value} {vs zs : List V} {Q : VK} (C : CallX X W f n ks g) (I : Inv X pins σ H s) (r : Vals vs us) (rz : Vals zs ws) (h : tCxK X W n ks.length g σ H vs zs Q) : wpAny (model X.prog X.w) X.A (call f us (ks.zip ws)) (EP X pins σ Q) X.xe s := by
  obtain ⟨l, l2, F, α, μ, ds, m, rr, o⟩ := h
  exact C pins σ H s us ws vs zs Q F α μ ds I r rz l l2 m rr o
/-- f(k = v, ..) -/
theorem de_callk0 (C : CallX X W f 0 ks g) (hg : Gl X y) (hm : X.mg y = some f) (hk : PySem.W.keepIn X.K f = true) (hz : DK X W kws zs) (hks : (backToKw pos (keywordEach kws X.env)).filterMap (·.1) = ks := by rfl) (hall : (backToKw pos (keywordEach kws X.env)).all (·.1.isSome) = true := by rfl)
    (hdb : (y == ("__debug__" : Str)) = false := by decide) (hpl : ((backTo pos (starEach [] X.env)).any (·.1) || (backToKw pos (keywordEach kws X.env)).any (·.1.isNone)) = false := by rfl) : DE X W (.Call (.Name y p) [] kws pos) (eCallK 0 ks.length g as0 zs) := by
  refine ⟨⟨fun pins s σ H Q I h => ?_⟩⟩
  have h2 := to_tCxK h
  obtain ⟨F, α, ρ, μ, m, sl, o⟩ := h2
  have h3 : tDs X.K W zs σ H fun ws H2 => tCxK X W 0 ks.length g σ H2 [] ws Q := OutOk.here (R := RVs X.K) o m rfl
  refine wpAny_Call_Name_kw (ld_glob I hg hm ?_ hdb)
  refine PySem.W.callWith_KW0 (h₀ := X.base) I.ok.mod.kin hk hall ?_ hpl
  refine thn (hz.pk.run pos pins s σ H _ I h3) fun ws s2 ⟨zs, H2, I2, rz, q2⟩ => ⟨I2.kIn, ?_⟩
  rw [hks]
  exact run_cxk (us := []) C I2 .nil rz q2
end
section
variable {K : Fr} {F : Hp} {α : List Addr}
theorem repF_look : ∀ {fs : List (Nat × Dat)} {fv : List (Str × V)} {i : Nat} {d : Dat}, RepF K F fs fv → fs.lookup i = some d → ∃ v, fv.lookup (fldNm i) = some v ∧ Rep K F d v
  | [], _, _, _, _, e => by cases e
  | (f, d0) :: fs, _, i, d, ⟨v, r, e1, h1, h2⟩, e => by
    subst e1
    by_cases hi : i = f
    · subst hi
      simp only [List.lookup_cons_self, Option.some.injEq] at e
      subst e
      exact ⟨v, by simp, h1⟩
    · have hb : (i == f) = false := by simpa using hi
      have hb2 : (fldNm i == fldNm f) = false := by
        rw [beq_eq_false_iff_ne]
        exact fun q => hi (fldNm_inj q)
      simp only [List.lookup_cons, hb] at e
      obtain ⟨w, q, rw'⟩ := repF_look h2 e
      exact ⟨w, by simp only [List.lookup_cons, hb2]; exact q, rw'⟩
theorem repVF_look : ∀ {fs : List (Nat × DV)} {fv : List (Str × V)} {i : Nat} {d : DV}, RepVF K F α fs fv → fs.lookup i = some d → ∃ v, fv.lookup (fldNm i) = some v ∧ RepV K F α d v
  | [], _, _, _, _, e => by cases e
  | (f, d0) :: fs, _, i, d, ⟨v, r, e1, h1, h2⟩, e => by
    subst e1
    by_cases hi : i = f
    · subst hi
      simp only [List.lookup_cons_self, Option.some.injEq] at e
      subst e
      exact ⟨v, by simp, h1⟩
    · have hb : (i == f) = false := by simpa using hi
      have hb2 : (fldNm i == fldNm f) = false := by
        rw [beq_eq_false_iff_ne]
        exact fun q => hi (fldNm_inj q)
      simp only [List.lookup_cons, hb] at e
      obtain ⟨w, q, rw'⟩ := repVF_look h2 e
      exact ⟨w, by simp only [List.lookup_cons, hb2]; exact q, rw'⟩
/-- a name that is no field's -/
def NoFld (m : Str) : Prop := ∀ i, fldNm i ≠ m
theorem noFld_of {m : Str} (h : ∀ i < 45, fldNm i ≠ m) (h2 : m.cps.size < 100) : NoFld m := fun i e => by
  by_cases hi : i < 45
  · exact h i hi e
  · have := fldNm_big hi
    rw [e] at this
    omega
theorem repF_none {m : Str} (hm : NoFld m) : ∀ {fs : List (Nat × Dat)} {fv : List (Str × V)}, RepF K F fs fv → fv.lookup m = none
  | [], _, h => by cases (show _ = [] from h); rfl
  | (f, d) :: fs, _, ⟨v, r, e1, h1, h2⟩ => by
    subst e1
    have hb : (m == fldNm f) = false := by
      rw [beq_eq_false_iff_ne]
      exact fun q => hm f q.symm
    simp only [List.lookup_cons, hb]
    exact repF_none hm h2
theorem repVF_none {m : Str} (hm : NoFld m) : ∀ {fs : List (Nat × DV)} {fv : List (Str × V)}, RepVF K F α fs fv → fv.lookup m = none
  | [], _, h => by cases (show _ = [] from h); rfl
  | (f, d) :: fs, _, ⟨v, r, e1, h1, h2⟩ => by
    subst e1
    have hb : (m == fldNm f) = false := by
      rw [beq_eq_false_iff_ne]
      exact fun q => hm f q.symm
    simp only [List.lookup_cons, hb]
    exact repVF_none hm h2
end
/-- an instance: its class -/
def insC : DV → List Cel → Option Nat
  | .d (.ins c _), _ => some c
  | .c n, μ => (match μ[n]? with
    | some (.ins c _) => some c
    | _ => none)
  | _, _ => none
def insF : DV → List Cel → Nat → Option DV
  | .d (.ins _ fs), _, i => (fs.lookup i).map .d
  | .c n, μ, i => (match μ[n]? with
    | some (.ins _ fs) => fs.lookup i
    | _ => none)
  | _, _, _ => none
section
variable {K : Fr} {F H : Hp} {α : List Addr} {μ : List Cel}
theorem ins_of (m : Mem K F H α μ) {d : DV} {x : V} {c : Nat} (r : RepV K F α d x) (e : insC d μ = some c) : ∃ a dx fv, x = .ref a ∧ H a = some (.ins (He.ga K (clsNm c)) dx fv) ∧ (∀ m, NoFld m → fv.lookup m = none) ∧ ∀ i v, insF d μ i = some v → ∃ u, fv.lookup (fldNm i) = some u ∧ RepV K F α v u := by
  unfold insC at e
  split at e
  · cases e
    obtain ⟨a, dx, fv, rfl, h1, h2⟩ := r
    refine ⟨a, dx, fv, rfl, m.fz _ _ h1, fun q hq => repF_none hq h2, fun i v hv => ?_⟩
    obtain ⟨d, e1, e2⟩ := Option.map_eq_some_iff.mp (show (_ : Option DV) = _ from hv)
    subst e2
    exact repF_look h2 e1
  · rename_i n
    obtain ⟨a, ha, rfl⟩ := r
    cases q : μ[n]? with
    | none => rw [q] at e; cases e
    | some cl =>
      rw [q] at e
      cases cl with
      | lst _ => cases e
      | dead => cases e
      | lv _ => cases e
      | ins c' fs =>
        cases e
        obtain ⟨h0, dx, fv, h1, h2⟩ := m.ok n _ a q ha
        refine ⟨a, dx, fv, rfl, h1, fun q hq => repVF_none hq h2, fun i v hv => ?_⟩
        have hv : (match μ[n]? with
          | some (.ins _ fs) => fs.lookup i
          | _ => none) = some v := hv
        rw [q] at hv
        exact repVF_look h2 hv
  · cases e
end
/-- o.f, an attribute of an instance of one of the classes cs -/
def fldG (cs : List Nat) (i : Nat) : G1 := fun x μ => match insC x μ with
  | some c => if c ∈ cs then (match insF x μ i with
    | some v => .ok v μ
    | none => .stuck) else .stuck
  | none => .stuck
/-- what of the text an attribute read wants -/
def FldOk (K : Fr) (cs : List Nat) (i : Nat) : Prop := ∀ c ∈ cs, Cls K (He.ga K (clsNm c)) ∧ NoAttr K (He.ga K (clsNm c)) (fldNm i)
section
variable {X : Cx} {W : WX} {pos p apos : Pos} {e : Expr} {x : EX}
theorem de_fld {i : Nat} {cs : List Nat} {f : Str} (he : DE X W e x) (hk : FldOk X.K cs i) (hf : f = fldNm i := by rfl) (hb : attributeBase e f X.env (eval e X.env) = eval e X.env := by rfl) : DE X W (.Attribute e f pos) (e1 (fldG cs i) x) := by
  subst hf
  refine ⟨PE.of (pe_fld he.pe hb) fun σ H Q h => tX_bind (f := fun _ x μ => fldG cs i x μ) h fun F α ρ μ v u H1 m s rv o => ?_⟩
  unfold fldG at o
  cases e1 : insC v μ with
  | none => rw [e1] at o; exact o.elim
  | some c =>
    rw [e1] at o
    by_cases hc : c ∈ cs
    · simp only [hc, if_true] at o
      obtain ⟨a, dx, fv, rfl, h1, _, h3⟩ := ins_of m rv e1
      cases e2 : insF v μ i with
      | none => rw [e2] at o; exact o.elim
      | some w =>
        rw [e2] at o
        obtain ⟨w', h4, h5⟩ := h3 i w e2
        exact ⟨a, _, dx, fv, w', rfl, h1, (hk c hc).1, (hk c hc).2, h4, OutOk.here (R := RV X.K) o m h5⟩
    · simp only [hc, if_false] at o; exact o.elim
/-- no exception from here -/
def noR (o : Out DV) : Out DV := match o with
  | .raise _ _ => .stuck
  | o => o
theorem noR_ok {K : Fr} {F : Hp} {α : List Addr} {o : Out DV} {Q : VK} {W W' : XK} (h : OutOk (RV K) K F α (noR o) Q W) : OutOk (RV K) K F α o Q W' := by
  cases o with
  | ok v μ => exact h
  | raise e μ => exact h.elim
  | stuck => exact h
/-- o.f, a property of the class c -/
def propG (c : Nat) (g : Gn) : G1 := fun x μ => if insC x μ = some c then noR (g [x] μ) else .stuck
theorem getprop_cd {C q gf a dx : Addr} {fv : List (Str × V)} {f : Str} {g : Gn} {k : Nat} {pins : List (Addr × Obj)} {σ : St} {F H : Hp} {α : List Addr} {μ : List Cel} {v : DV} {s : Shared} {Q : VK} {b : Bool} {E' : Value → Shared → Prop} (I : Inv X pins σ H s) (ea : H a = some (.ins C dx fv)) (c : Cls X.K C) (hp : PropOf X.K C f q gf)
    (Cg : CD X.prog X.w X.K X.mg X.base k (.ref gf) 1 [] g) (hr : RoomG (k + 1) X.A) (m : Mem X.K F H α μ) (rv : RepV X.K F α v (.ref a)) (o : OutOk (RV X.K) X.K F α (g [v] μ) Q E0) :
    wpAny (model X.prog X.w) X.A (getAttr (.ref a) f b) (EP X pins σ Q) E' s := by
  obtain ⟨mA, O, _, _, _, _⟩ := ins_get I.hok ea
  obtain ⟨od, J, _⟩ := O.look
  obtain ⟨rest, hrec⟩ := hp.rec_
  have I1 := I.tok (s.toks + 1)
  have hc : (PySem.W.clsIn X.K C).isSome = true := by
    obtain ⟨cd, hc, _⟩ := PySem.W.any_some c.hd
    rw [hc]
    rfl
  refine PySem.W.get_bind I.kIn J (PySem.W.plainGet_of (c.get f)).1 (PySem.W.findObj_data hc hp.at_ hp.get hp.tak) (PySem.W.plainGet_of (c.get f)).2 (wpAny_call (PySem.W.prop_get (s := { s with toks := s.toks + 1 }) I.kIn hrec ?_))
  refine codeAny_mono (Cg X.A.in1 X.stack { s with toks := s.toks + 1 } H [.ref a] [] [.ref a] [] Q E0 F α μ [v] hr.in1 I1.env0.in1 (.cons rfl .nil) .nil rfl rfl m ⟨_, _, rfl, rv, rfl⟩ o) fun r s' hq => ?_
  cases r with
  | error er =>
    obtain ⟨_, _, _, _, _, _, _, _, _, _, _, _, z⟩ := (show L2.CX X.prog X.w _ _ _ E0 er s' from hq)
    exact z.elim
  | ok fl =>
    cases fl with
    | ret u =>
      obtain ⟨v, H', I3, rv, q3⟩ := I1.after hq
      show wpAny _ _ (handedOut u) _ _ _
      rw [PySem.W.handedOut_of (handed_of rv)]
      exact wpAny_pure ⟨v, H', I3, rv, q3⟩
    | next => exact False.elim hq
    | brk => exact False.elim hq
    | cont => exact False.elim hq
theorem de_prop {c : Nat} {f : Str} {q gf : Addr} {g : Gn} {k : Nat} (he : DE X W e x) (hc : Cls X.K (He.ga X.K (clsNm c))) (hp : PropOf X.K (He.ga X.K (clsNm c)) f q gf) (Cg : CD X.prog X.w X.K X.mg X.base k (.ref gf) 1 [] g) (hr : RoomG (k + 1) X.A)
    (hab : attributeBase e f X.env (eval e X.env) = eval e X.env := by rfl) : DE X W (.Attribute e f pos) (e1 (propG c g) x) := by
  refine ⟨⟨fun pins s σ H Q I h => ?_⟩⟩
  have hw : tD X.K W x σ H fun u H1 => ∃ a dx fv F α μ v, u = .ref a ∧ H1 a = some (.ins (He.ga X.K (clsNm c)) dx fv) ∧ Mem X.K F H1 α μ ∧ RepV X.K F α v (.ref a) ∧ OutOk (RV X.K) X.K F α (g [v] μ) Q E0 := by
    refine tX_bind (f := fun _ x μ => propG c g x μ) h fun F α ρ μ v u H1 m s rv o => ?_
    unfold propG at o
    by_cases e1 : insC v μ = some c
    · simp only [e1, if_true] at o
      obtain ⟨a, dx, fv, rfl, h1, _, _⟩ := ins_of m rv e1
      exact ⟨a, dx, fv, F, α, μ, v, rfl, h1, m, rv, noR_ok o⟩
    · simp only [e1, if_false] at o; exact o.elim
  refine attr_of hab (thn (he.pe.run pins s σ H _ I hw) fun u s1 ⟨x, H1, I1, rx, a, dx, fv, F, α, μ, v, ex, ea, m, rv, o⟩ => ?_)
  subst ex
  obtain rfl : u = Value.ref a := rx
  exact getprop_cd I1 ea hc hp Cg hr m rv o
/-- the methods by the class -/
abbrev MT := List (Nat × Gn)
def eMeth (n : Nat) (tb : MT) (a : EX) (as : EXs) : EX := fun ρ μ => (a ρ μ).bind fun x μ => match (insC x μ).bind fun c => tb.lookup c with
  | some g => (as ρ μ).bind fun xs μ => if xs.length = n then g (x :: xs) μ else .stuck
  | none => .stuck
variable {es : List Expr} {a0 : Expr} {xs : EXs}
end
def putN (i : Nat) (v : DV) : List (Nat × DV) → List (Nat × DV)
  | [] => [(i, v)]
  | (j, x) :: r => if j = i then (j, v) :: r else (j, x) :: putN i v r
def setFld (cs : List Nat) (i : Nat) (o v : DV) (ρ : Rho) (μ : List Cel) : SOut := match o with
  | .c n => (match μ[n]? with
    | some (.ins c fs) => if c ∈ cs ∧ fs.length < 1000 then .nx ρ (μ.set n (.ins c (putN i v fs))) else .stuck
    | _ => .stuck)
  | _ => .stuck
def sFldS (cs : List Nat) (i : Nat) (o v : EX) : SX := fun ρ μ => (v ρ μ).sbind ρ fun y μ => (o ρ μ).sbind ρ fun x μ => setFld cs i x y ρ μ
section
variable {K : Fr} {F : Hp} {α : List Addr}
theorem repVF_put {i : Nat} {v : DV} {u : V} (rv : RepV K F α v u) : ∀ {fs : List (Nat × DV)} {fv : List (Str × V)}, RepVF K F α fs fv → RepVF K F α (putN i v fs) (putF (fldNm i) u fv)
  | [], _, h => by cases (show _ = [] from h); exact ⟨u, [], rfl, rv, rfl⟩
  | (j, d) :: fs, _, ⟨w, r, e1, h1, h2⟩ => by
    subst e1
    unfold putN putF
    by_cases hj : j = i
    · subst hj
      simp only [if_true]
      exact ⟨u, r, rfl, rv, h2⟩
    · have hne : fldNm j ≠ fldNm i := fun q => hj (fldNm_inj q)
      simp only [hj, hne, if_false]
      exact ⟨w, _, rfl, h1, repVF_put rv h2⟩
theorem repVF_len : ∀ {fs : List (Nat × DV)} {fv : List (Str × V)}, RepVF K F α fs fv → fs.length = fv.length
  | [], _, h => by cases (show _ = [] from h); rfl
  | (j, d) :: fs, _, ⟨w, r, e1, h1, h2⟩ => by subst e1; simp [repVF_len h2]
end
section
variable {X : Cx} {W : WX} {pos pos' : Pos} {e o : Expr} {x xo : EX}
theorem ds_fld {i : Nat} {cs : List Nat} {f : Str} (ho : DE X W o xo) (hv : DE X W e x) (hk : FldOk X.K cs i) (hf : f = fldNm i := by rfl) (hs : swapsWith e (some (.Attribute o f pos')) pos.line X.env = pure false := by rfl) : DS X W (.Assign [.Attribute o f pos'] e pos) (sFldS cs i xo x) := by
  subst hf
  refine ⟨PS.of (ps_fld ho.pe hv.pe hs) fun D σ H ⟨F, α, ρ, μ, m, s, ok⟩ => tX_mk m s (SOk.ebind s ok fun v u F1 α1 μ1 H1 g1 m1 r1 o1 => ?_)⟩
  refine tX_mk m1 (s.grow g1) (SOk.ebind (s.grow g1) o1 fun w u2 F2 α2 μ2 H2 g2 m2 r2 o2 => ?_)
  unfold setFld at o2
  split at o2
  · rename_i n
    obtain ⟨a, ha, rfl⟩ := r2
    cases q : μ2[n]? with
    | none => rw [q] at o2; exact o2.elim
    | some cl =>
      rw [q] at o2
      cases cl with
      | lst _ => exact o2.elim
      | dead => exact o2.elim
      | lv _ => exact o2.elim
      | ins c fs =>
        simp only at o2
        by_cases hc : c ∈ cs ∧ fs.length < 1000
        · rw [if_pos hc] at o2
          obtain ⟨h0, dx, fv, h1, h2⟩ := m2.ok n _ a q ha
          refine ⟨a, _, dx, fv, rfl, h1, (hk c hc.1).1, (hk c hc.1).2, by rw [← repVF_len h2]; exact hc.2, ?_⟩
          have m3 := m2.write (o := .ins (He.ga X.K (clsNm c)) dx (putF (fldNm i) u fv)) (c := .ins c (putN i v fs)) ha h0 ⟨h0, dx, _, upd_same, repVF_put (r1.grow g2) h2⟩
          exact SOk.here o2 m3 (s.grow (g1.trans g2))
        · rw [if_neg hc] at o2; exact o2.elim
  · exact o2.elim
end
end DL
set_option Elab.async false
set_option linter.all false
set_option maxRecDepth 100000
set_option maxHeartbeats 4000000
namespace DL
open PySem PySem.Spec PyProof.Rows L2
set_option maxHeartbeats 4000000 in
theorem meets_enum1 {v : Value} {o : Obj} {H : Heap → Prop} (B : PySem.Begins v o H) :
    Meets (Builtin.«enumerate.__new__» ⟨[.type "enumerate", v], []⟩) (fun _ R s => H s.heap ∧
      R (.ok (.ret (.ref (s.heap.push o).objs.size))) { s with heap := (s.heap.push o).push { cls := .type "enumerate", data := .fields #[.none, .bool false, .ref s.heap.objs.size, rawInt 0, .none, .none] } }) :=
  .of_wp fun prog w A R s h => by
    obtain ⟨hp, g, d, tk, os⟩ := s; obtain ⟨h1, h⟩ := h
    have hsub := sub_enumerate
    have q1 : ∀ {A' : Around} {E : Value → Shared → Prop} {Q : Value → Shared → Prop}, Q (.ref hp.objs.size) ⟨hp.push o, g, d, tk, os⟩ → wpAny (model prog w) A' (pyIter v) Q E ⟨hp, g, d, tk, os⟩ :=
      fun q => B.iter prog w _ _ ⟨hp, g, d, tk, os⟩ _ h1 q
    wp_walk using q1
    refine wpAny_stack_any fun st => wpAny_pure ?_
    split
    · rename_i c _ _ _ _ _
      cases (c == Value.type "enumerate")
      · wp_walk using q1
        exact ⟨_, rfl, h⟩
      · wp_walk using q1
        exact ⟨_, rfl, h⟩
    · wp_walk using q1
      exact ⟨_, rfl, h⟩
theorem call_enum1 {prog : Program} {w : World} {A : Around} {E : Value → Shared → Prop} {s : Shared} {v : Value} {o : Obj} {H : Heap → Prop} {Q : Value → Shared → Prop} (B : PySem.Begins v o H) (h1 : H s.heap)
    (h : ∀ h', IsEnum h' (s.heap.objs.size + 1) s.heap.objs.size 0 .none → h'.get? s.heap.objs.size = some o → h'.objs.size = s.heap.objs.size + 2 →
      (∀ b o, s.heap.get? b = some o → h'.get? b = some o) → Q (.ref (s.heap.objs.size + 1)) { s with heap := h' }) :
    wpAny (model prog w) A (call (.type "enumerate") [v]) Q E s := by
  refine callType_new PySem.F.called_enumerate (by decide) (PySem.F.typeCall_enumerate_1 _) (PySem.F.newCall_enumerate_1 _) (fun obj => PySem.F.args_object_init_2 obj _) PySem.F.entry_enumerate_new (meets_enum1 B) ⟨h1, ?_⟩
  have hz : (s.heap.push o).objs.size = s.heap.objs.size + 1 := Heap.size_push ..
  show _ ∧ _
  rw [hz]
  have he : IsEnum ((s.heap.push o).push { cls := .type "enumerate", data := .fields #[.none, .bool false, .ref s.heap.objs.size, rawInt 0, .none, .none] }) (s.heap.objs.size + 1) s.heap.objs.size 0 .none := by
    have := Heap.get?_push_size (s.heap.push o) (o := { cls := .type "enumerate", data := .fields #[.none, .bool false, .ref s.heap.objs.size, rawInt 0, .none, .none] }) rfl
    rw [hz] at this; exact this
  refine ⟨⟨_, he, rfl⟩, h _ he (Heap.get?_push_of_some _ (Heap.get?_push_size _ B.free)) (by rw [Heap.size_push, hz]) fun b o x => Heap.get?_push_of_some _ (Heap.get?_push_of_some _ x)⟩
/-- the tuple at a, each item in a new pair -/
def IteT (K : Fr) (a : Addr) : It :=
  ⟨fun i H => ∃ (xs : List V) (x : V), SqT K H a xs ∧ xs[i]? = some x, fun i H v H' => ∃ T x, v = .ref T ∧ H T = none ∧ H' = upd H T (.tup [.int (i : Nat), x]) ∧ ∀ xs, SqT K H a xs → xs[i]? = some x, fun i H => ∃ xs : List V, SqT K H a xs ∧ xs.length = i⟩
theorem turn_enumT {P : Program} {w : World} {K : Fr} {elts : List Expr} {kk : Nat} {tpos : Pos} (a e it : Addr) :
    Turn P w K (.Tuple elts kk tpos) (IteT K a) [e, it] e (fun i h => (∃ old, IsEnum h e it ((i : Nat) : Int) old) ∧ h.IsTupleIter it a i ∧ e ≠ it) where
  mem := by simp
  obj := fun i h st b hb => by
    obtain ⟨⟨old, he⟩, ⟨o, ho, hc, hd⟩, _⟩ := st
    rcases (show b = e ∨ b = it by simpa using hb) with z | z
    · rw [z]; exact ⟨_, he, fun v q => nomatch q⟩
    · rw [z]; exact ⟨o, ho, fun v q => by rw [hd] at q; cases q⟩
  keep := fun i h h' st k => let ⟨⟨old, he⟩, hi, hne⟩ := st; ⟨⟨old, k e (by simp) _ he⟩, hi.at fun o q => k it (by simp) o q, hne⟩
  item := by
    intro X hP hw hK hc i pins s σ H E I hf st hg
    subst hP hw hK
    obtain ⟨⟨old, he⟩, hit, hne⟩ := st
    obtain ⟨xs, x, hq, hx⟩ := hg
    obtain ⟨its, rv, p, hz⟩ := I.tuple hq
    have p : s.heap.IsTuple a its.toArray := p
    obtain ⟨u, hu, ru⟩ := rv.get hx
    have hel : e < s.heap.objs.size := Heap.lt_size he
    have hil : it < s.heap.objs.size := by obtain ⟨_, q, _⟩ := hit; exact Heap.lt_size q
    have nea : e ≠ a := fun z => by
      obtain ⟨o, ho, hc', _⟩ := p
      rw [← z, he] at ho
      cases ho
      injection hc' with q; exact absurd q (by decide)
    have nia : a ≠ it := fun z => by
      obtain ⟨o, ho, hc', _⟩ := p
      obtain ⟨o', ho', hc2, _⟩ := hit
      rw [z, ho'] at ho
      cases ho
      rw [hc2] at hc'
      injection hc' with q; exact absurd q (by decide)
    refine wpAny_pyNext_enum_itemD (Draws.tuple (prog := X.prog) (w := X.w) (A := X.A.in1) (I.ok.hd hc) it a nia its.toArray) he ⟨hit, p⟩ (by simpa using (List.getElem?_eq_some_iff.mp hu).1) hne (by simp [hne, nea]) fun u' h' tk hP ho hst hT hsz hk => ?_
    have eu : u' = u := by
      have : its.toArray[i]? = some u' := hP
      rw [List.getElem?_toArray, hu] at this
      cases this; rfl
    subst eu
    refine ⟨_, rfl, wpAny_letOwnedTupleGo_enum (s := { s with heap := h', toks := tk + 1 }) ho fun h'' he' sb => ?_⟩
    have hT2 : h''.get? s.heap.objs.size = some { cls := .type "tuple", data := .seq #[.int i tk, u'] } := (sb.2 _ (Nat.ne_of_gt hel)).trans hT
    have new : ObjOk X.prog X.w (upd H s.heap.objs.size (.tup [.int (i : Nat), x])) h'' s.heap.objs.size (.tup [.int (i : Nat), x]) :=
      ⟨by show 2 ≤ sizeLine; decide, [.int i tk, u'], .cons ⟨_, rfl⟩ (.cons ru .nil), ⟨_, hT2, rfl, _, rfl⟩⟩
    have I1 : Inv X pins σ (upd H s.heap.objs.size (.tup [.int (i : Nat), x])) { s with heap := h'', toks := tk + 1 } :=
      I.turnedNew (ch := [e, it]) (fun b ob hb q => (sb.2 b (fun z => hb (by simp [z]))).trans (hk b ob (fun z => hb (by simp [z])) (fun z => hb (by simp [z])) q)) hf (Nat.le_refl _) new
    refine ⟨.ref s.heap.objs.size, _, I1, rfl, ⟨_, x, rfl, I.hok.fresh (Nat.le_refl _), rfl, fun ys hy => by rw [I.tuple_inj hy hq]; exact hx⟩, ⟨⟨u', ?_⟩, hst.1.at fun o q => (sb.2 it (Ne.symm hne)).trans q, hne⟩, fun b hb => ?_⟩
    · have e1 : ((i + 1 : Nat) : Int) = (i : Int) + 1 := by omega
      rw [e1]; exact he'
    · have hb' : b < s.heap.objs.size := by
        rcases (show b = e ∨ b = it by simpa using hb) with z | z
        · rw [z]; exact hel
        · rw [z]; exact hil
      rw [upd_ne (Nat.ne_of_lt hb')]
      exact (hf b hb).1
  done := by
    intro X hP hw hK hc i pins s σ H E I hf st hg
    subst hP hw hK
    obtain ⟨⟨old, he⟩, hit, hne⟩ := st
    obtain ⟨xs, hq, hx⟩ := hg
    obtain ⟨its, rv, p, hz⟩ := I.tuple hq
    have p : s.heap.IsTuple a its.toArray := p
    obtain ⟨f0, f1, f2, f3, f4, f5⟩ := hf it (by simp)
    have hl := rv.length
    have nia : a ≠ it := fun z => by
      obtain ⟨o, ho, hc', _⟩ := p
      obtain ⟨o', ho', hc2, _⟩ := hit
      rw [z, ho'] at ho
      cases ho
      rw [hc2] at hc'
      injection hc' with q; exact absurd q (by decide)
    refine wpAny_pyNext_enum_endD (Draws.tuple (prog := X.prog) (w := X.w) (A := X.A.in1) (I.ok.hd hc) it a nia its.toArray) he ⟨by simpa [← hl, hx] using hit, p⟩ fun h' eb => ⟨rfl, I.turned (t' := s.toks) (fun b o hb q => eb b o hb q) f0 f1 f3 f4 f5⟩
  self := fun A i s Q E st h => let ⟨⟨_, he⟩, _⟩ := st; wpAny_pyIter_enum he h
section
variable {X : Cx} {tg : Expr} {pins : List (Addr × Obj)} {σ : St} {H : Hp} {s : Shared} {R : It → Hp → Prop} {a : Addr} {xs : List V}
theorem pie_list (I : Inv X pins σ H s) (h : SqL X.K H a xs) (q : R (Itl X.K a) H) : wpAny (model X.prog X.w) X.A (pyIter (.ref a)) (PIE X pins σ tg R) X.xe s := by
  obtain ⟨its, rv, p, hz⟩ := I.list h
  refine wpAny_pyIter_list p.isList ?_
  refine ⟨s.heap.objs.size, [s.heap.objs.size], _, _, H, rfl, I.kept (t' := s.toks) fun b o e => Heap.get?_push_of_some _ e, turn_list a _, ⟨_, Heap.get?_push_size _ rfl, rfl, rfl⟩, fun b hb => ?_, q⟩
  obtain rfl : b = s.heap.objs.size := by simpa using hb
  exact I.fpOk (Nat.le_refl _) (I.hok.fresh (Nat.le_refl _))
theorem pie_tup (I : Inv X pins σ H s) (h : SqT X.K H a xs) (q : R (Itt X.K a) H) : wpAny (model X.prog X.w) X.A (pyIter (.ref a)) (PIE X pins σ tg R) X.xe s := by
  obtain ⟨its, rv, p, hz⟩ := I.tuple h
  refine wpAny_pyIter_tuple (show s.heap.IsTuple a its.toArray from p) ?_
  refine ⟨s.heap.objs.size, [s.heap.objs.size], _, _, H, rfl, I.kept (t' := s.toks) fun b o e => Heap.get?_push_of_some _ e, turn_tuple a _, ⟨_, Heap.get?_push_size _ rfl, rfl, rfl⟩, fun b hb => ?_, q⟩
  obtain rfl : b = s.heap.objs.size := by simpa using hb
  exact I.fpOk (Nat.le_refl _) (I.hok.fresh (Nat.le_refl _))
theorem pie_str {x : Str} {t : Tok} (I : Inv X pins σ H s) (q : R (Its x) H) : wpAny (model X.prog X.w) X.A (pyIter (.str x t)) (PIE X pins σ tg R) X.xe s := by
  cases ha : x.cps.all (· < 128)
  · exact wpAny_pyIter_wide ha (pi_one (tk := s.toks) I _ (turn_str _ x t "str_iterator" (.inr rfl)) ⟨_, Heap.get?_push_size _ rfl, rfl, rfl⟩ q)
  · exact wpAny_pyIter_ascii ha (pi_one (tk := s.toks) I _ (turn_str _ x t "str_ascii_iterator" (.inl rfl)) ⟨_, Heap.get?_push_size _ rfl, rfl, rfl⟩ q)
end
section
variable {K : Fr} {F : Hp} {a b : Addr} {xs ys : List V} {ds es : List Dat}
theorem gives_list (h : SqL K F a xs) (r : Reps K F ds xs) : Gives K F (Itl K a) ds where
  go := fun i H l hi => ⟨xs, xs[i]'(by rw [← r.length]; exact hi), sqL_le l h, by simp⟩
  stop := fun i H l hi => ⟨xs, sqL_le l h, by rw [← r.length]; omega⟩
  yld := fun i H H' x F1 α μ l m hi ⟨e, q⟩ => by
    subst e
    obtain ⟨d, hd, rd⟩ := r.get (q xs (sqL_le (l.trans m.fz) h))
    exact ⟨F1, d, hd, Grow.refl, m, rd.le l⟩
theorem gives_tup (h : SqT K F a xs) (r : Reps K F ds xs) : Gives K F (Itt K a) ds where
  go := fun i H l hi => ⟨xs, xs[i]'(by rw [← r.length]; exact hi), sqT_le0 l h, by simp⟩
  stop := fun i H l hi => ⟨xs, sqT_le0 l h, by rw [← r.length]; omega⟩
  yld := fun i H H' x F1 α μ l m hi ⟨e, q⟩ => by
    subst e
    obtain ⟨d, hd, rd⟩ := r.get (q xs (sqT_le0 (l.trans m.fz) h))
    exact ⟨F1, d, hd, Grow.refl, m, rd.le l⟩
def strD (z : List Nat) : List Dat := z.map fun c => .str [c]
theorem gives_str (z : List Nat) : Gives K F (Its (sV z)) (strD z) where
  go := fun i H l hi => by simpa [Its, sV, strD] using hi
  stop := fun i H l hi => by
    have : i = z.length := by simpa [strD] using hi
    show (sV z).cps.size ≤ i
    simp [sV, this]
  yld := fun i H H' x F1 α μ l m hi ⟨e, c, q, ex⟩ => by
    subst e ex
    have q' : z[i]? = some c := by simpa [sV] using q
    exact ⟨F1, .str [c], by simp [strD, q'], Grow.refl, m, by show 1 ≤ 16777216; decide, rfl⟩
def rngD (lo : Int) (n : Nat) : List Dat := (List.range n).map fun (i : Nat) => .int (lo + (i : Int))
theorem gives_range (lo : Int) (n : Nat) : Gives K F (Itr lo n) (rngD lo n) where
  go := fun i H l hi => by simpa [Itr, rngD] using hi
  stop := fun i H l hi => by
    show n ≤ i
    have : i = n := by simpa [rngD] using hi
    omega
  yld := fun i H H' x F1 α μ l m hi ⟨e, ex⟩ => by
    subst e ex
    have hi' : i < n := by simpa [rngD] using hi
    exact ⟨F1, .int (lo + i), by simp [rngD, hi'], Grow.refl, m, rfl⟩
def enumD (n : Nat) : List Dat → List Dat
  | [] => []
  | d :: ds => .tup [.int (n : Nat), d] :: enumD (n + 1) ds
theorem enumD_len : ∀ (n : Nat) (ds : List Dat), (enumD n ds).length = ds.length
  | _, [] => rfl
  | n, _ :: ds => by simp [enumD, enumD_len (n + 1) ds]
theorem enumD_get : ∀ (n i : Nat) (ds : List Dat), (enumD n ds)[i]? = ds[i]?.map fun d => .tup [.int ((n + i : Nat) : Int), d]
  | _, _, [] => by simp [enumD]
  | n, 0, d :: ds => by simp [enumD]
  | n, i + 1, d :: ds => by
    simp only [enumD, List.getElem?_cons_succ]
    rw [enumD_get (n + 1) i ds]
    simp only [show n + 1 + i = n + (i + 1) by omega]
theorem pair_laid {H : Hp} {α : List Addr} {μ : List Cel} {T : Addr} {x y : V} {d e : Dat} (m : Mem K F H α μ) (hT : H T = none) (r1 : Rep K F d x) (r2 : Rep K F e y) (hb : blT [d, e] = false) :
    ∃ F2, Grow F α F2 α ∧ Mem K F2 (upd H T (.tup [x, y])) α μ ∧ Rep K F2 (.tup [d, e]) (.ref T) := by
  obtain ⟨m2, g⟩ := m.laid (o := .tup [x, y]) hT
  refine ⟨_, g, m2, by show 2 ≤ 16777216; decide, T, [x, y], rfl, ⟨.inl (.inl upd_same), fun q => by rw [hb] at q; cases q⟩, ?_⟩
  exact .cons (r1.le g.f) (.cons (r2.le g.f) .nil)
theorem gives_enum (h : SqL K F a xs) (r : Reps K F ds xs) : Gives K F (Ite K a) (enumD 0 ds) where
  go := fun i H l hi => ⟨xs, xs[i]'(by rw [← r.length]; rw [enumD_len] at hi; exact hi), sqL_le l h, by simp⟩
  stop := fun i H l hi => ⟨xs, sqL_le l h, by rw [enumD_len] at hi; rw [← r.length]; omega⟩
  yld := fun i H H' x F1 α μ l m hi ⟨T, y, ex, hT, e, q⟩ => by
    subst e ex
    obtain ⟨d, hd, rd⟩ := r.get (q xs (sqL_le (l.trans m.fz) h))
    obtain ⟨F2, g, m2, r2⟩ := pair_laid m hT (d := .int (i : Nat)) (x := .int (i : Nat)) rfl (rd.le l) rfl
    exact ⟨F2, _, by rw [enumD_get, hd]; simp, g, m2, r2⟩
theorem gives_enumT (h : SqT K F a xs) (r : Reps K F ds xs) : Gives K F (IteT K a) (enumD 0 ds) where
  go := fun i H l hi => ⟨xs, xs[i]'(by rw [← r.length]; rw [enumD_len] at hi; exact hi), sqT_le0 l h, by simp⟩
  stop := fun i H l hi => ⟨xs, sqT_le0 l h, by rw [enumD_len] at hi; rw [← r.length]; omega⟩
  yld := fun i H H' x F1 α μ l m hi ⟨T, y, ex, hT, e, q⟩ => by
    subst e ex
    obtain ⟨d, hd, rd⟩ := r.get (q xs (sqT_le0 (l.trans m.fz) h))
    obtain ⟨F2, g, m2, r2⟩ := pair_laid m hT (d := .int (i : Nat)) (x := .int (i : Nat)) rfl (rd.le l) rfl
    exact ⟨F2, _, by rw [enumD_get, hd]; simp, g, m2, r2⟩
/-- no pair of truths -/
def zipB (ds es : List Dat) : Bool := (ds.zip es).all fun p => !blT [p.1, p.2]
def zipD : List Dat → List Dat → List Dat
  | d :: ds, e :: es => .tup [d, e] :: zipD ds es
  | _, _ => []
end
def ofS (o : Option (List Dat)) (μ : List Cel) : Out (List Dat) := match o with
  | some ds => .ok ds μ
  | none => .stuck
def seqIt : DV → Option (List Dat)
  | .d (.lst ds) => some ds
  | .d (.tup ds) => some ds
  | .d (.fl ds) => some ds
  | .d (.str z) => some (strD z)
  | _ => none
def iSeq (a : EX) : IX := fun ρ μ => (a ρ μ).bind fun v μ => ofS (seqIt v) μ
def tupIt : DV → Option (List Dat)
  | .d (.lst ds) => some ds
  | .d (.tup ds) => some ds
  | .d (.fl ds) => some ds
  | _ => none
def iEnumX (a : EX) : IX := fun ρ μ => (a ρ μ).bind fun v μ => ofS ((tupIt v).map (enumD 0)) μ
def rngB (i : Int) : Prop := -(2 ^ 62) ≤ i ∧ i < 2 ^ 62
/-- the test, so written that it does not run on an open number -/
def rngT : Int → Bool
  | .ofNat n => Nat.ble n 4611686018427387903
  | .negSucc n => Nat.ble n 4611686018427387903
theorem rngT_iff (i : Int) : rngT i = true ↔ rngB i := by
  unfold rngB
  cases i with
  | ofNat n =>
    show Nat.ble n 4611686018427387903 = true ↔ _
    rw [Nat.ble_eq]
    have : Int.ofNat n = (n : Int) := rfl
    rw [this]
    omega
  | negSucc n =>
    show Nat.ble n 4611686018427387903 = true ↔ _
    rw [Nat.ble_eq]
    omega
instance (i : Int) : Decidable (rngB i) := decidable_of_iff _ (rngT_iff i)
def rng1 : DV → Option (List Dat)
  | .d (.int j) => if rngB j then some (rngD 0 j.toNat) else none
  | _ => none
def rng2 : DV → DV → Option (List Dat)
  | .d (.int i), .d (.int j) => if rngB i ∧ rngB j then some (rngD i (j - i).toNat) else none
  | _, _ => none
def zip2 : DV → DV → Option (List Dat)
  | .d (.lst ds), .d (.lst es) => if zipB ds es = true then some (zipD ds es) else none
  | .d (.tup ds), .d (.tup es) => if zipB ds es = true then some (zipD ds es) else none
  | _, _ => none
def iRange1 (a : EX) : IX := fun ρ μ => (a ρ μ).bind fun v μ => ofS (rng1 v) μ
def iRange2 (a b : EX) : IX := fun ρ μ => (a ρ μ).bind fun v μ => (b ρ μ).bind fun w μ => ofS (rng2 v w) μ
def iZip2 (a b : EX) : IX := fun ρ μ => (a ρ μ).bind fun v μ => (b ρ μ).bind fun w μ => ofS (zip2 v w) μ
section
variable {X : Cx} {W : WX} {tg e e' : Expr} {x x' : EX} {pos p tpos : Pos} {elts : List Expr} {kk : Nat}
/-- what an iterator's wish gives its maker -/
def ItOk (K : Fr) (W : WX) (σ : St) (F : Hp) (α : List Addr) (o : Out (List Dat)) (R : It → Hp → Prop) : Prop := match o with
  | .ok ds μ' => ∀ F' α' H' J, Grow F α F' α' → Mem K F' H' α' μ' → Gives K F' J ds → R J H'
  | .raise e μ' => ∀ cls dx F' α' H', Grow F α F' α' → Mem K F' H' α' μ' → ExnRep K F' e cls dx → W cls dx σ H'
  | .stuck => False
theorem ItOk.grow {K : Fr} {σ : St} {F F' : Hp} {α α' : List Addr} {o : Out (List Dat)} {R : It → Hp → Prop} (g : Grow F α F' α') (h : ItOk K W σ F α o R) : ItOk K W σ F' α' o R := by
  cases o with
  | ok ds μ => exact fun F2 α2 H2 J g2 m gv => h F2 α2 H2 J (g.trans g2) m gv
  | raise e μ => exact fun cls dx F2 α2 H2 g2 m r => h cls dx F2 α2 H2 (g.trans g2) m r
  | stuck => exact h
theorem ItOk.bind {K : Fr} {σ : St} {F : Hp} {α : List Addr} {τ ω : Type} {R0 : Hp → List Addr → τ → ω → Prop} {o : Out τ} {f : τ → List Cel → Out (List Dat)} {R : It → Hp → Prop} {Q' : ω → Hp → Prop} (h : ItOk K W σ F α (o.bind f) R)
    (k : ∀ v u F1 α1 μ1 H1, Grow F α F1 α1 → Mem K F1 H1 α1 μ1 → R0 F1 α1 v u → ItOk K W σ F1 α1 (f v μ1) R → Q' u H1) : OutOk R0 K F α o Q' (fun cls dx H' => W cls dx σ H') := by
  cases o with
  | ok v μ1 => exact fun u F1 α1 H1 g m r => k v u F1 α1 μ1 H1 g m r (ItOk.grow g h)
  | raise e μ1 => exact h
  | stuck => exact h
theorem di_seq (he : DE X W e x) : DI X W tg e (iSeq x) := by
  refine ⟨⟨fun pins s σ H R I h => ?_⟩⟩
  obtain ⟨F, α, ρ, μ, m, sl, o⟩ := h
  replace o : ItOk X.K W σ F α ((x ρ μ).bind fun v μ => ofS (seqIt v) μ) R := o
  have hw : tD X.K W x σ H (fun v H1 => ∃ F1 α1 μ1 d ds, Mem X.K F1 H1 α1 μ1 ∧ RepV X.K F1 α1 d v ∧ seqIt d = some ds ∧ ∀ J, Gives X.K F1 J ds → R J H1) := by
    refine tX_mk m sl (ItOk.bind o fun v u F1 α1 μ1 H1 g1 m1 r1 o1 => ?_)
    cases q : seqIt v with
    | none => rw [q] at o1; exact o1.elim
    | some ds =>
      rw [q] at o1
      exact ⟨F1, α1, μ1, v, ds, m1, r1, q, fun J gv => o1 F1 α1 H1 J Grow.refl m1 gv⟩
  refine thn (he.pe.run pins s σ H _ I hw) fun u s1 ⟨v, H1, I1, rv, F1, α1, μ1, d, ds, m1, r1, q, k⟩ => ?_
  unfold seqIt at q
  split at q
  · cases q
    obtain ⟨z, a, xs, rfl, hx, rr⟩ := r1
    obtain rfl : u = Value.ref a := rv
    exact pie_list I1 (SqL.of (m1.fz _ _ hx)) (k _ (gives_list (SqL.of hx) rr))
  · cases q
    obtain ⟨z, a, xs, rfl, hx, rr⟩ := r1
    obtain rfl : u = Value.ref a := rv
    exact pie_tup I1 (sqT_le m1.fz hx) (k _ (gives_tup hx.1 rr))
  · cases q
    obtain ⟨z, a, xs, rfl, hx, rr⟩ := r1
    obtain rfl : u = Value.ref a := rv
    exact pie_list I1 (sqL_le m1.fz hx) (k _ (gives_list hx rr))
  · cases q
    obtain ⟨z, rfl⟩ := r1
    obtain ⟨t, rfl⟩ := rv
    exact pie_str I1 (k _ (gives_str _))
  · cases q
theorem di_range1 (hg : Gl X "range") (hm : X.mg "range" = none) (he : DE X W e x) (hs : starEach [e] X.env = [(false, eval e X.env)] := by rfl) : DI X W tg (.Call (.Name "range" p) [e] [] pos) (iRange1 x) := by
  refine ⟨PI.of (pi_range1 hg hm (da_cons he da_nil (by rw [hs]; rfl)).pa hs) fun σ H R ⟨F, α, ρ, μ, m, sl, o⟩ => ?_⟩
  replace o : ItOk X.K W σ F α ((x ρ μ).bind fun v μ => ofS (rng1 v) μ) R := o
  refine tX_mk (x := as1 x as0) (R := RVs X.K) m sl ?_
  show OutOk (RVs X.K) X.K F α ((x ρ μ).bind fun v μ => (as0 ρ μ).bind fun vs μ => .ok (v :: vs) μ) _ _
  cases e0 : x ρ μ with
  | stuck => rw [e0] at o; exact o
  | raise ex μ1 => rw [e0] at o; exact o
  | ok v μ1 =>
    rw [e0] at o
    intro us F1 α1 H1 g1 m1 r1
    obtain ⟨u, rfl, ru⟩ := repVs1 r1
    replace o : ItOk X.K W σ F α (ofS (rng1 v) μ1) R := o
    unfold rng1 at o
    split at o
    · rename_i j
      cases ru
      split at o
      · rename_i hj
        exact ⟨j, rfl, hj.1, hj.2, o F1 α1 H1 _ g1 m1 (gives_range 0 j.toNat)⟩
      · exact o.elim
    · exact o.elim
theorem di_enum (hg : Gl X "enumerate") (hm : X.mg "enumerate" = none) (he : DE X W e x) (hs : starEach [e] X.env = [(false, eval e X.env)] := by rfl) : DI X W (.Tuple elts kk tpos) (.Call (.Name "enumerate" p) [e] [] pos) (iEnumX x) := by
  refine ⟨⟨fun pins s σ H R I h => ?_⟩⟩
  obtain ⟨F, α, ρ, μ, m, sl, o⟩ := h
  replace o : ItOk X.K W σ F α ((x ρ μ).bind fun v μ => ofS ((tupIt v).map (enumD 0)) μ) R := o
  have hw : tDs X.K W (as1 x as0) σ H (fun vs H1 => ∃ v, vs = [v] ∧ ∃ F1 α1 μ1 d ds, Mem X.K F1 H1 α1 μ1 ∧ RepV X.K F1 α1 d v ∧ tupIt d = some ds ∧ ∀ J, Gives X.K F1 J (enumD 0 ds) → R J H1) := by
    refine tX_mk m sl ?_
    show OutOk (RVs X.K) X.K F α ((x ρ μ).bind fun v μ => (as0 ρ μ).bind fun vs μ => .ok (v :: vs) μ) _ _
    cases e0 : x ρ μ with
    | stuck => rw [e0] at o; exact o
    | raise ex μ1 => rw [e0] at o; exact o
    | ok v μ1 =>
      rw [e0] at o
      intro us F1 α1 H1 g1 m1 r1
      obtain ⟨u, rfl, ru⟩ := repVs1 r1
      replace o : ItOk X.K W σ F α (ofS ((tupIt v).map (enumD 0)) μ1) R := o
      cases q : tupIt v with
      | none => rw [q] at o; exact o.elim
      | some ds =>
        rw [q] at o
        exact ⟨u, rfl, F1, α1, μ1, v, ds, m1, ru, q, fun J gv => o F1 α1 H1 J g1 m1 gv⟩
  refine Call_ (ld_blt I hg hm boot_enumerate (PyProof.Rows.callWith_type1 (thn ((da_cons he da_nil (by rw [hs]; rfl)).pa.run pos pins s σ H _ I hw) fun us s1 ⟨vs, H1, I1, rr1, q1⟩ => ?_) hs rfl))
  obtain ⟨v, rfl, F1, α1, μ1, d, ds, m1, r1, q, k⟩ := q1
  obtain ⟨u, rfl, r⟩ : ∃ u, us = [u] ∧ RelV v u := by
    cases rr1 with
    | cons r rr =>
      cases rr
      exact ⟨_, rfl, r⟩
  · skip
    have fp : ∀ b ∈ [s1.heap.objs.size + 1, s1.heap.objs.size], FpOk X pins H1 b := fun b hb => by
      have e' : b = s1.heap.objs.size + 1 ∨ b = s1.heap.objs.size := by simpa using hb
      have hle : s1.heap.objs.size ≤ b := by omega
      exact I1.fpOk hle (I1.hok.fresh hle)
    have lst : ∀ a xs, v = .ref a → SqL X.K H1 a xs → R (Ite X.K a) H1 → wpAny (model X.prog X.w) X.A (call (.type "enumerate") [u]) (fun v s1 => wpAny (model X.prog X.w) X.A (pyIter v) (PIE X pins σ (.Tuple elts kk tpos) R) X.xe s1) X.xe s1 := fun a xs ev hx hR => by
      subst ev
      obtain rfl : u = Value.ref a := r
      obtain ⟨its, rv, p', hz⟩ := I1.list hx
      refine call_enumerate_list p'.isList fun h' he hit hsz hk => wpAny_pyIter_enum he ?_
      exact ⟨s1.heap.objs.size + 1, [s1.heap.objs.size + 1, s1.heap.objs.size], _, _, H1, rfl, I1.kept (t' := s1.toks) hk, turn_enum a (s1.heap.objs.size + 1) s1.heap.objs.size, ⟨⟨.none, he⟩, hit, Nat.succ_ne_self _⟩, fp, hR⟩
    unfold tupIt at q
    split at q
    · cases q
      obtain ⟨z, a, xs, ev, hx, rr⟩ := r1
      exact lst a xs ev (SqL.of (m1.fz _ _ hx)) (k _ (gives_enum (SqL.of hx) rr))
    · cases q
      obtain ⟨z, a, xs, rfl, hx, rr⟩ := r1
      obtain rfl : u = Value.ref a := r
      obtain ⟨its, rv, p', hz⟩ := I1.tuple (sqT_le m1.fz hx)
      have p' : s1.heap.IsTuple a its.toArray := p'
      refine call_enum1 (begins_tuple a its.toArray) p' fun h' he ho hsz hk => wpAny_pyIter_enum he ?_
      exact ⟨s1.heap.objs.size + 1, [s1.heap.objs.size + 1, s1.heap.objs.size], _, _, H1, rfl, I1.kept (t' := s1.toks) hk, turn_enumT a (s1.heap.objs.size + 1) s1.heap.objs.size, ⟨⟨.none, he⟩, ⟨_, ho, rfl, rfl⟩, Nat.succ_ne_self _⟩, fp, k _ (gives_enumT hx.1 rr)⟩
    · cases q
      obtain ⟨z, a, xs, ev, hx, rr⟩ := r1
      exact lst a xs ev (sqL_le m1.fz hx) (k _ (gives_enum hx rr))
    · cases q
end
end DL
set_option Elab.async false
set_option linter.all false
set_option maxRecDepth 100000
set_option maxHeartbeats 4000000
namespace DL
open PySem PySem.Spec PyProof.Rows L2
def Off (own : List Nat) (σ σ' : St) : Prop := σ.length = σ'.length ∧ ∀ j, j ∉ own → σ[j]? = σ'[j]?
theorem Off.refl (own : List Nat) (σ : St) : Off own σ σ := ⟨rfl, fun _ _ => rfl⟩
theorem Off.trans {a b : List Nat} {σ σ1 σ2 : St} (x : Off a σ σ1) (y : Off b σ1 σ2) : Off (a ++ b) σ σ2 :=
  ⟨x.1.trans y.1, fun j h => (x.2 j fun q => h (List.mem_append_left _ q)).trans (y.2 j fun q => h (List.mem_append_right _ q))⟩
theorem wipe_get (σ : St) (j : Nat) : ∀ vs : List Nat, (wipe σ vs)[j]? = if j ∈ vs then (if j < σ.length then some none else none) else σ[j]?
  | [] => by simp [wipe]
  | v :: vs => by
    unfold wipe
    by_cases h : v = j
    · subst h
      rw [if_pos List.mem_cons_self]
      by_cases hl : v < σ.length
      · rw [List.getElem?_set_self (by rw [wipe_length]; exact hl), if_pos hl]
      · rw [if_neg hl, List.getElem?_eq_none (by rw [List.length_set, wipe_length]; omega)]
    · rw [List.getElem?_set_ne h, wipe_get σ j vs]
      by_cases h2 : j ∈ vs
      · rw [if_pos h2, if_pos (List.mem_cons_of_mem _ h2)]
      · rw [if_neg h2, if_neg (by simp [h2]; exact fun e => h e.symm)]
theorem Off.wipe {own vs : List Nat} {σ σ' : St} (x : Off own σ σ') (h : ∀ i ∈ own, i ∈ vs) : wipe σ' vs = wipe σ vs := by
  apply List.ext_getElem?
  intro j
  rw [wipe_get, wipe_get]
  by_cases hj : j ∈ vs
  · rw [if_pos hj, if_pos hj, x.1]
  · rw [if_neg hj, if_neg hj]
    exact (x.2 j fun q => hj (h j q)).symm
theorem Off.mono {own vs : List Nat} {σ σ' : St} (x : Off own σ σ') (h : ∀ i ∈ own, i ∈ vs) : Off vs σ σ' := ⟨x.1, fun j hj => x.2 j fun q => hj (h j q)⟩
/-- a pattern of names -/
def PatOk (K : Fr) (own : List Nat) (o : SOut) (F : Hp) (α : List Addr) (σ : St) (H : Hp) (Q : St → Hp → Prop) : Prop := match o with
  | .nx ρ' _ => ∀ σ', Slots K F α ρ' σ' → Off own σ σ' → Q σ' H
  | _ => False
structure DP (X : Cx) (own : List Nat) (tg : Expr) (g : GX) : Prop where
  pg : PG X tg (fun x σ H Q => ∃ F α ρ μ v, Mem X.K F H α μ ∧ Slots X.K F α ρ σ ∧ RepV X.K F α v x ∧ PatOk X.K own (g v ρ μ) F α σ H Q)
  pr : ∀ v ρ μ ρ' μ', g v ρ μ = .nx ρ' μ' → μ' = μ
structure DPs (X : Cx) (own : List Nat) (tg : List Expr) (g : GXs) : Prop where
  pg : PGs X tg (fun xs σ H Q => ∃ F α ρ μ vs, Mem X.K F H α μ ∧ Slots X.K F α ρ σ ∧ Reps X.K F vs xs ∧ PatOk X.K own (g vs ρ μ) F α σ H Q)
  pr : ∀ v ρ μ ρ' μ', g v ρ μ = .nx ρ' μ' → μ' = μ
section
variable {X : Cx} {pos : Pos} {e : Expr} {es : List Expr} {g : GX} {gs : GXs} {own own' : List Nat}
theorem dp_n (i : Nat) {y : Str} (hN : X.N.Nodup) (hi : X.N[i]? = some y := by rfl) (hx : Loc X.env.scope y := by first | exact .inl rfl | exact .inr rfl) (hf : X.fn y = true ∨ X.env.scope.names.lookup y = some .local := by first | exact .inl rfl | exact .inr rfl | assumption) : DP X [i] (.Name y pos) (gN i) := by
  refine ⟨PG.of (pg_name hN hi hx hf) fun u σ H Q ⟨F, α, ρ, μ, v, m, s, r, o⟩ => ?_, fun v ρ μ ρ' μ' h => by cases h; rfl⟩
  refine o _ (s.set i r) ⟨by simp, fun j hj => ?_⟩
  rw [List.getElem?_set_ne (by simpa using fun e => hj (by simp [e]))]
theorem dps_nil : DPs X [] [] gsN := ⟨PGs.of pgs_nil fun xs σ H Q ⟨F, α, ρ, μ, vs, m, s, r, o⟩ => by
  cases vs with
  | nil => exact ⟨r, o σ s (Off.refl _ _)⟩
  | cons v vs => exact o.elim, fun v ρ μ ρ' μ' h => by
    cases v with
    | nil => cases h; rfl
    | cons _ _ => cases h⟩
theorem dps_cons (h : DP X own e g) (hs : DPs X own' es gs) (hst : (assignEach (e :: es) X.env).map (·.2) = assign e X.env :: (assignEach es X.env).map (·.2) := by rfl) : DPs X (own ++ own') (e :: es) (gsC g gs) := by
  refine ⟨PGs.of (pgs_cons h.pg hs.pg hst) fun xs σ H Q ⟨F, α, ρ, μ, vs, m, s, r, o⟩ => ?_, fun v ρ μ ρ' μ' q => ?_⟩
  · cases vs with
    | nil => exact o.elim
    | cons v vs =>
      obtain ⟨x, xr, e1, r1, r2⟩ := r
      subst e1
      refine ⟨x, xr, rfl, F, α, ρ, μ, .d v, m, s, r1, ?_⟩
      have o : PatOk X.K (own ++ own') ((g (.d v) ρ μ).bind (gs vs)) F α σ H Q := o
      cases q : g (.d v) ρ μ with
      | nx ρ1 μ1 =>
        have := h.pr _ _ _ _ _ q
        subst this
        rw [q] at o
        intro σ1 s1 f1
        refine ⟨F, α, ρ1, μ1, vs, m, s1, r2, ?_⟩
        have o : PatOk X.K (own ++ own') (gs vs ρ1 μ1) F α σ H Q := o
        cases q2 : gs vs ρ1 μ1 with
        | nx ρ2 μ2 =>
          rw [q2] at o
          exact fun σ2 s2 f2 => o σ2 s2 (f1.trans f2)
        | rt _ _ => rw [q2] at o; exact o.elim
        | raise _ _ _ => rw [q2] at o; exact o.elim
        | stuck => rw [q2] at o; exact o.elim
      | rt _ _ => rw [q] at o; exact o.elim
      | raise _ _ _ => rw [q] at o; exact o.elim
      | stuck => rw [q] at o; exact o.elim
  · cases v with
    | nil => cases q
    | cons v vs =>
      have q : (g (.d v) ρ μ).bind (gs vs) = .nx ρ' μ' := q
      cases q2 : g (.d v) ρ μ with
      | nx ρ1 μ1 =>
        rw [q2] at q
        exact (hs.pr _ _ _ _ _ q).trans (h.pr _ _ _ _ _ q2)
      | rt _ _ => rw [q2] at q; cases q
      | raise _ _ _ => rw [q2] at q; cases q
      | stuck => rw [q2] at q; cases q
theorem dp_tup {k n : Nat} (hc : X.calm = true) (h : DPs X own es gs) (hn : (assignEach es X.env).length = n := by rfl) (hst : (assignEach es X.env).findIdx? (·.1) = none := by rfl) : DP X own (.Tuple es k pos) (gT n gs) := by
  refine ⟨PG.of (pg_tup hc h.pg hn hst) fun x σ H Q ⟨F, α, ρ, μ, v, m, s, r, o⟩ => ?_, fun v ρ μ ρ' μ' q => ?_⟩
  · unfold gT at o
    split at o
    · obtain ⟨z, a, xs, rfl, hx, rr⟩ := r
      split at o
      · rename_i hl
        exact ⟨a, xs, rfl, sqT_le m.fz hx, by rw [← rr.length]; exact hl, F, α, ρ, μ, _, m, s, rr, o⟩
      · exact o.elim
    · exact o.elim
  · unfold gT at q
    split at q
    · split at q
      · exact h.pr _ _ _ _ _ q
      · cases q
    · cases q
end
/-- the tests of a clause -/
structure DTs (X : Cx) (W : WX) (ifs : List Expr) (t : TX) : Prop where
  pts : PTs X ifs (tDT X.K W t)
theorem PTs.of {X : Cx} {e : List Expr} {t t' : TT} (h : PTs X e t) (i : ∀ σ H Q, t' σ H Q → t σ H Q) : PTs X e t' := ⟨fun pins s σ H Q I hw => h.run pins s σ H Q I (i σ H Q hw)⟩
def tTrue : TX := fun _ μ => .ok true μ
theorem dts_nil {X : Cx} {W : WX} : DTs X W [] tTrue := ⟨PTs.of pts_nil fun σ H Q ⟨F, α, ρ, μ, m, s, o⟩ => OutOk.here (R := RB) o m rfl⟩
theorem dts_one {X : Cx} {W : WX} {c : Expr} {t : TX} (h : DT X W c t) : DTs X W [c] t := ⟨pts_one h.pt⟩
abbrev W0 : WX := fun _ _ _ _ => False
def wipeR (ρ : Rho) : List Nat → Rho
  | [] => ρ
  | v :: vs => (wipeR ρ vs).set v none
theorem wipeR_length (ρ : Rho) : ∀ vs, (wipeR ρ vs).length = ρ.length
  | [] => rfl
  | v :: vs => by unfold wipeR; rw [List.length_set, wipeR_length ρ vs]
theorem wipeR_some {ρ : Rho} {i : Nat} {x : DV} : ∀ {vs : List Nat}, (wipeR ρ vs)[i]? = some (some x) → ρ[i]? = some (some x) ∧ i ∉ vs
  | [], h => ⟨h, by simp⟩
  | v :: vs, h => by
    unfold wipeR at h
    by_cases hi : v = i
    · subst hi
      by_cases hv : v < (wipeR ρ vs).length
      · rw [List.getElem?_set_self hv] at h; cases h
      · rw [List.getElem?_eq_none (by simpa using hv)] at h; cases h
    · rw [List.getElem?_set_ne hi] at h
      obtain ⟨h1, h2⟩ := wipeR_some h
      exact ⟨h1, by simp only [List.mem_cons, not_or]; exact ⟨fun e => hi e.symm, h2⟩⟩
theorem Slots.wipe {K : Fr} {F : Hp} {α : List Addr} {ρ : Rho} {σ : St} (s : Slots K F α ρ σ) (vs : List Nat) : Slots K F α (wipeR ρ vs) (L2.wipe σ vs) := by
  refine ⟨by rw [wipeR_length, wipe_length]; exact s.1, fun i v h => ?_⟩
  obtain ⟨h1, h2⟩ := wipeR_some h
  obtain ⟨u, hu, ru⟩ := s.2 i v h1
  exact ⟨u, by rw [wipe_get, if_neg h2]; exact hu, ru⟩
/-- the turns: n0 the new list's cell -/
def compL (n0 : Nat) (ρ : Rho) (g : GX) (t : TX) (e : EX) : List Dat → List Cel → Out Unit
  | [], μ => .ok () μ
  | d :: ds, μ => match g (.d d) ρ μ with
    | .nx ρ1 _ => (match t ρ1 μ with
      | .ok true μ1 => (match e ρ1 μ1 with
        | .ok (.d v) μ2 => (match μ2[n0]? with
          | some (.lst acc) => if acc.length < LIM then compL n0 ρ g t e ds (μ2.set n0 (.lst (acc ++ [v]))) else .stuck
          | _ => .stuck)
        | _ => .stuck)
      | .ok false μ1 => compL n0 ρ g t e ds μ1
      | _ => .stuck)
    | _ => .stuck
def compE (n0 : Nat) (o : Out Unit) : Out DV := match o with
  | .ok _ μ => (match μ[n0]? with
    | some (.lst acc) => .ok (.d (.lst acc)) (cutM n0 (μ.set n0 .dead))
    | _ => .stuck)
  | _ => .stuck
def eLc (own : List Nat) (it : IX) (g : GX) (t : TX) (e : EX) : EX := fun ρ μ => (it ρ μ).bind fun ds μ => compE μ.length (compL μ.length (wipeR ρ own) g t e ds (μ ++ [.lst []]))
section
variable {X : Cx} {W : WX}
abbrev Blk (X : Cx) (scope : Scope) (s : Shared) (H : Hp) (C : Addr) (cl : List (Str × Addr)) (fp : List Addr) : Cx := X.blk s H scope (compEnvC scope cl C X.env) fp
/-- what is reached at the end of the list at cell n0 -/
theorem lc_pre {own : List Nat} {it : IX} {g : GX} {t : TX} {e : EX} {pown : List Nat} {σ : St} {H : Hp} {Q : VK} (hown : ∀ i ∈ pown, i ∈ own) (hpr : ∀ v ρ μ ρ' μ', g v ρ μ = .nx ρ' μ' → μ' = μ) (h : tD X.K W (eLc own it g t e) σ H Q) :
    tLc (tIX X.K W it) (fun x σ H Q => ∃ F α ρ μ v, Mem X.K F H α μ ∧ Slots X.K F α ρ σ ∧ RepV X.K F α v x ∧ PatOk X.K pown (g v ρ μ) F α σ H Q) (tDT X.K W0 t) (tD X.K W0 e) own σ H Q := by
  obtain ⟨F, α, ρ, μ, m, s, o⟩ := h
  refine ⟨F, α, ρ, μ, m, s, ?_⟩
  have o : OutOk (RV X.K) X.K F α ((it ρ μ).bind fun ds μ => compE μ.length (compL μ.length (wipeR ρ own) g t e ds (μ ++ [.lst []]))) Q (fun cls dx H' => W cls dx σ H') := o
  cases q : it ρ μ with
  | stuck => rw [q] at o; exact o
  | raise ex μ1 => rw [q] at o; exact fun cls dx F1 α1 H1 g1 m1 r => o cls dx F1 α1 H1 g1 m1 r
  | ok ds μ0 =>
    rw [q] at o
    intro F1 α1 H1 J g1 m1 gv D hD
    replace o : OutOk (RV X.K) X.K F α (compE μ0.length (compL μ0.length (wipeR ρ own) g t e ds (μ0 ++ [.lst []]))) Q (fun cls dx H' => W cls dx σ H') := o
    have s1 := s.grow g1
    obtain ⟨m2, g2⟩ := m1.cell (p := D) (o := .lst []) (c := .lst []) hD ⟨(m1.fresh hD).1, Nat.zero_le _, [], upd_same, rfl⟩
    refine ⟨fun i mm H => mm = ds.length - i ∧ i ≤ ds.length ∧ ∃ F2 α2 μ2, Grow F1 (α1 ++ [D]) F2 α2 ∧ Mem X.K F2 H α2 μ2 ∧ OutOk (RV X.K) X.K F α (compE μ0.length (compL μ0.length (wipeR ρ own) g t e (ds.drop i) μ2)) Q (fun cls dx H' => W cls dx σ H'),
      ⟨ds.length, by simp, Nat.zero_le _, F1, α1 ++ [D], _, Grow.refl, m2, by rw [List.drop_zero]; exact o⟩, ?_⟩
    rintro i mm H2 ⟨rfl, hi, F2, α2, μ2, g3, m3, o3⟩
    have hn0 : α2[μ0.length]? = some D := by
      refine g3.get ?_
      rw [← m1.len]; simp
    have l2 : Le F1 F2 := g3.f
    by_cases hlt : i < ds.length
    · refine .inr ⟨gv.go i H2 (l2.trans m3.fz) hlt, fun H' => ∃ F4 α4 μ4, Grow F1 (α1 ++ [D]) F4 α4 ∧ Mem X.K F4 H' α4 μ4 ∧ OutOk (RV X.K) X.K F α (compE μ0.length (compL μ0.length (wipeR ρ own) g t e (ds.drop (i + 1)) μ4)) Q (fun cls dx H' => W cls dx σ H'),
        fun H' z => ⟨ds.length - (i + 1), by omega, rfl, hlt, z⟩, fun x H' y => ?_⟩
      obtain ⟨F3, d, hd, g4, m4, r4⟩ := gv.yld i H2 H' x F2 α2 μ2 l2 m3 hlt y
      have ed : ds.drop i = d :: ds.drop (i + 1) := by
        rw [List.drop_eq_getElem_cons hlt]
        rw [List.getElem?_eq_getElem hlt] at hd
        rw [Option.some.inj hd]
      rw [ed] at o3
      have sw : Slots X.K F3 α2 (wipeR ρ own) (wipe σ own) := (s1.grow (g2.trans (g3.trans g4))).wipe own
      refine ⟨F3, α2, wipeR ρ own, μ2, .d d, m4, sw, r4, ?_⟩
      unfold compL at o3
      cases q1 : g (.d d) (wipeR ρ own) μ2 with
      | rt _ _ => rw [q1] at o3; exact o3.elim
      | raise _ _ _ => rw [q1] at o3; exact o3.elim
      | stuck => rw [q1] at o3; exact o3.elim
      | nx ρ1 μx =>
        simp only [q1] at o3
        intro σ1 sl1 off1
        refine ⟨?_, ?_⟩
        · rw [off1.wipe hown]
          apply List.ext_getElem?
          intro j
          rw [wipe_get, wipe_get, wipe_length]
          by_cases hj : j ∈ own
          · rw [if_pos hj, if_pos hj]
          · rw [if_neg hj, if_neg hj]
        · refine tX_mk m4 sl1 ?_
          cases q2 : t ρ1 μ2 with
          | stuck => simp only [q2] at o3; exact o3.elim
          | raise _ _ => simp only [q2] at o3; exact o3.elim
          | ok bb μ5 =>
            intro b F5 α5 H5 g5 m5 rb
            cases (show b = bb from rb)
            cases bb with
            | false =>
              simp only [q2] at o3
              exact iteF ⟨F5, α5, μ5, g3.trans (g4.trans g5), m5, o3⟩
            | true =>
              simp only [q2] at o3
              refine iteT (tX_mk m5 (sl1.grow g5) ?_)
              cases q3 : e ρ1 μ5 with
              | stuck => simp only [q3] at o3; exact o3.elim
              | raise _ _ => simp only [q3] at o3; exact o3.elim
              | ok v μ6 =>
                simp only [q3] at o3
                cases v with
                | c _ => exact o3.elim
                | d v =>
                  intro u F6 α6 H6 g6 m6 r6
                  simp only at o3
                  have hn6 : α6[μ0.length]? = some D := (g5.trans g6).get hn0
                  cases q4 : μ6[μ0.length]? with
                  | none => simp only [q4] at o3; exact o3.elim
                  | some cl =>
                    simp only [q4] at o3
                    cases cl with
                    | ins _ _ => exact o3.elim
                    | dead => exact o3.elim
                    | lv _ => exact o3.elim
                    | lst acc =>
                      simp only at o3
                      obtain ⟨h0, z, xs, hx, rr⟩ := m6.ok _ _ D q4 hn6
                      by_cases hz : acc.length < LIM
                      · rw [if_pos hz] at o3
                        refine ⟨xs, hx, by rw [← rr.length]; exact lim_lt hz, F6, α6, _, g3.trans (g4.trans (g5.trans g6)), ?_, o3⟩
                        exact m6.write (o := .lst (xs ++ [u])) (c := .lst (acc ++ [v])) hn6 h0 ⟨h0, by simp; omega, _, upd_same, rr.append (.cons r6 .nil)⟩
                      · rw [if_neg hz] at o3; exact o3.elim
    · have ei : i = ds.length := by omega
      refine .inl ⟨gv.stop i H2 (l2.trans m3.fz) ei, ?_⟩
      rw [ei, List.drop_length] at o3
      unfold compL compE at o3
      simp only at o3
      cases q4 : μ2[μ0.length]? with
      | none => simp only [q4] at o3; exact o3.elim
      | some cl =>
        simp only [q4] at o3
        cases cl with
        | ins _ _ => exact o3.elim
        | dead => exact o3.elim
        | lv _ => exact o3.elim
        | lst acc =>
          simp only at o3
          obtain ⟨h0, z, xs, hx, rr⟩ := m3.ok _ _ D q4 hn0
          obtain ⟨m5, g5⟩ := m3.freeze hn0 h0 hx
          obtain ⟨α7, g7, m7⟩ := m5.cutM (n := μ0.length) (F := F1) (α := α1) (g2.trans (g3.trans g5)) m1.len.symm
          exact o3 (.ref D) _ α7 H2 (g1.trans g7) m7 ⟨z, D, xs, rfl, upd_same, rr.le g5.f⟩
variable {elt tg iter : Expr} {ifs : List Expr} {scope : Scope} {own : List (Str × Nat)} {pos spos py : Pos} {it : IX} {g : GX} {t : TX} {e : EX} {pown : List Nat}
theorem de_lc (own : List (Str × Nat)) (hc : X.calm = true) (hN : X.N.Nodup) (hi : DI X W tg iter it) (ok : BlkOk X.N X.env.scope scope own) (hg : ∀ s H C cl fp, DP (Blk X scope s H C cl fp) pown tg g) (ht : ∀ s H C cl fp, DTs (Blk X scope s H C cl fp) W0 ifs t)
    (he : ∀ s H C cl fp, DE (Blk X scope s H C cl fp) W0 elt e) (hown : ∀ i ∈ pown, i ∈ own.map (·.2) := by decide) (hs : ∀ x, foldedSetIterable iter X.env x = pure x := by intro _; rfl) :
    DE X W (.ListComp elt [⟨tg, iter, ifs, 0⟩] scope pos) (eLc (own.map (·.2)) it g t e) := by
  have hpr := (hg X.s_0 X.H_0 0 [] []).pr
  exact ⟨PE.of (pe_lc hc hN hi.pi ok (fun s H C cl fp => (hg s H C cl fp).pg) (fun s H C cl fp => (ht s H C cl fp).pts) (fun s H C cl fp => (he s H C cl fp).pe) hs) fun σ H Q h => lc_pre hown hpr h⟩
/-- name = [..] on one line -/
theorem ds_setLc (i : Nat) {y : Str} (own : List (Str × Nat)) (hc : X.calm = true) (hN : X.N.Nodup) (hi : DI X W tg iter it) (ok : BlkOk X.N X.env.scope scope own) (hg : ∀ s H C cl fp, DP (Blk X scope s H C cl fp) pown tg g) (ht : ∀ s H C cl fp, DTs (Blk X scope s H C cl fp) W0 ifs t)
    (he : ∀ s H C cl fp, DE (Blk X scope s H C cl fp) W0 elt e) (hy : X.N[i]? = some y := by rfl) (hyl : X.env.scope.names.lookup y = some .local := by rfl)
    (hsw : swapsWith (.ListComp elt [⟨tg, iter, ifs, 0⟩] scope pos) (some (.Name y py)) spos.line X.env = pure true := by rfl) (hown : ∀ i ∈ pown, i ∈ own.map (·.2) := by decide) (hs : ∀ x, foldedSetIterable iter X.env x = pure x := by intro _; rfl) :
    DS X W (.Assign [.Name y py] (.ListComp elt [⟨tg, iter, ifs, 0⟩] scope pos) spos) (sAsg (eLc (own.map (·.2)) it g t e) (gN i)) := by
  have hpr := (hg X.s_0 X.H_0 0 [] []).pr
  refine ⟨PS.of (ps_setLc (wi := tIX X.K W it) (g := fun x σ H Q => ∃ F α ρ μ v, Mem X.K F H α μ ∧ Slots X.K F α ρ σ ∧ RepV X.K F α v x ∧ PatOk X.K pown (g v ρ μ) F α σ H Q) (tt := tDT X.K W0 t) (te := tD X.K W0 e) hc hN hy hyl hsw hi.pi ok (fun s H C cl fp => (hg s H C cl fp).pg) (fun s H C cl fp => (ht s H C cl fp).pts) (fun s H C cl fp => (he s H C cl fp).pe) hs) fun D σ H ⟨F, α, ρ, μ, m, s, o⟩ => ?_⟩
  refine lc_pre (W := W) hown hpr (tX_mk m s (SOk.ebind s o fun v u F1 α1 μ1 H1 g1 m1 r1 o1 => SOk.here o1 m1 ((s.grow g1).set i r1)))
end
end DL
set_option Elab.async false
set_option linter.all false
set_option maxRecDepth 100000
set_option maxHeartbeats 4000000
namespace DL
open PySem PySem.Spec PyProof.Rows L2
abbrev newSet (w : World) : Obj := { cls := .type "set", dict := none, data := .set #[] 0 (.fresh 0 0 (!w.params.followText "set-order")) }
section
variable {P : Program} {w : World} {A : Around} {E : Value → Shared → Prop} {s : Shared}
/-- what is kept of the state behind set.__init__ -/
def SetMade (w : World) (s : Shared) (ns : List Int) (r : Value) (s2 : Shared) : Prop := r = .none ∧ ∃ h' tk c, s2 = { s with heap := h', toks := tk } ∧ SetR w h' s.heap.objs.size (fun j => decide (j ∈ ns)) c ∧ c ≤ ns.length ∧ (∀ b o, s.heap.get? b = some o → h'.get? b = some o)
theorem set_init_list {l : Addr} {items : Array Value} {ns : List Int} (hh : A.handled = none) (hl : s.heap.IsList l items) (hit : IntsAre items.toList ns) (hb : ns.length + 1 < scanBound) :
    wpAny (model P w) A (Builtin.«set.__init__» ⟨[.ref s.heap.objs.size, .ref l], []⟩) (fun f s2 => ∃ r, f = .done (.ret r) ∧ SetMade w s ns r s2) E { s with heap := s.heap.push (newSet w) } := by
  have hz : items.size = ns.length := by
    have q := IntsAre.length hit
    rwa [Array.length_toList] at q
  have hlt : l < s.heap.objs.size := by obtain ⟨o, q, _⟩ := hl; exact Heap.lt_size q
  have e1 : (s.heap.push (newSet w)).objs.size = s.heap.objs.size + 1 := Heap.size_push ..
  have hS : (s.heap.push (newSet w)).get? s.heap.objs.size = some (newSet w) := Heap.get?_push_size _ rfl
  have hT : Shared.TypeIs { s with heap := s.heap.push (newSet w) } (.ref s.heap.objs.size) "set" := ⟨_, hS, rfl⟩
  have hL : (s.heap.push (newSet w)).IsList l items := hl.push _
  obtain ⟨⟨oc, odi, oda, osl⟩, ho, hc, nl, hd⟩ := id hL
  simp only at hc hd
  subst hc hd
  have q1 := PySem.F.sub_list_set
  have q2 := PySem.F.sub_list_frozenset
  have q3 : (Value.type "list" == Value.type "dict") = false := by decide
  unfold Builtin.«set.__init__» noKeywords Builtin.Frozenset.updateFrom
  generalize hPI : pyIter = PI
  wp_walk
  subst hPI
  refine wpAny_pyIter_list hL (wpAny_bind (wpAny_runValue ?_))
  have hne : l ≠ (s.heap.push (newSet w)).objs.size := by rw [e1]; exact Nat.ne_of_lt (Nat.lt_succ_of_lt hlt)
  have hnf : s.heap.objs.size ∉ [(s.heap.push (newSet w)).objs.size, l] := by
    rw [e1]
    simp only [List.mem_cons, List.not_mem_nil, or_false, not_or]
    exact ⟨Nat.ne_of_lt (Nat.lt_succ_self _), Nat.ne_of_gt hlt⟩
  have hval : ∀ (i : Nat) (v : Value), items[i]? = some v → ∃ k t, ns[i]? = some k ∧ v = .int k t := fun i v hv => by
    have hi : i < ns.length := by rw [← hz]; exact (Array.getElem?_eq_some_iff.mp hv).1
    obtain ⟨t, e⟩ := PyProof.Rows.IntsAre.int_at hit i v (by rw [Array.getElem?_toList]; exact hv)
    exact ⟨ns[i], t, List.getElem?_eq_getElem hi, by rw [e, List.getD_eq_getElem?_getD, List.getElem?_eq_getElem hi] <;> rfl⟩
  refine set_update_ints ((Walks.list (by simp [hh]) _ l hne items).toS) s.heap.objs.size hnf ns hz hb hval items.size 0 _ (by omega) (Nat.zero_le _) ⟨⟨_, Heap.get?_push_size _ rfl, rfl, rfl⟩, hL.push _⟩
    ⟨0, Nat.le_refl 0, setR_new_at (Heap.get?_push_of_some _ hS)⟩ fun s' c hm hc hR => ?_
  have e2 : s' = { s with heap := s'.heap, toks := s'.toks } := by
    have a1 := hm.gens
    have a2 := hm.drawn
    have a3 := hm.os
    cases s'
    simp only at a1 a2 a3
    subst a1 a2 a3
    rfl
  refine wpAny_pure (wpAny_pure ⟨.none, rfl, rfl, s'.heap, s'.toks, c, e2, hR, by rw [← hz]; exact hc, fun b o e => ?_⟩)
  have hb0 : b < s.heap.objs.size := Heap.lt_size e
  refine hm.heap b o ?_ (Heap.get?_push_of_some _ (Heap.get?_push_of_some _ e))
  rw [e1]
  simp only [List.mem_cons, List.not_mem_nil, or_false, not_or]
  exact ⟨Nat.ne_of_lt hb0, Nat.ne_of_lt (Nat.lt_succ_of_lt hb0)⟩
theorem call_set_ints {l : Addr} {items : Array Value} {ns : List Int} {Q : Value → Shared → Prop} (hh : A.handled = none) (hl : s.heap.IsList l items) (hit : IntsAre items.toList ns) (hb : ns.length + 1 < scanBound)
    (h : ∀ s', SetMade w s ns .none s' → Q (.ref s.heap.objs.size) s') : wpAny (model P w) A (call (.type "set") [.ref l]) Q E s := by
  obtain ⟨c, tl, hmro⟩ := PySem.F.called_set.mro
  have hmade := PySem.F.called_set.made
  have hsub := PySem.F.called_set.sub
  refine wpAny_call (codeAny_of_tree ?_)
  show wpAny _ _ (callAny (.type "set") _) _ _ _
  refine wpAny_pure ⟨Code.quiet_builtin _ (by decide +kernel), codeAny_builtin PySem.F.entry_type_call ?_⟩
  rw [Around.under_plain (weight_type_call_type "set" [.ref l] []) rfl]
  have h1 := PySem.F.called_set.notType
  have h2 := PySem.F.called_set.canCreate
  have hct := PySem.F.typeCall_set_1 (.ref l)
  repeat (any_goals (first | assumption | wp_step))
  refine codeAny_mono (code_set_led1 (.ref l) (E := E) (Q₁ := fun obj s1 => obj = .ref s.heap.objs.size ∧ s1 = { s with heap := s.heap.push (newSet w) }) ⟨rfl, rfl⟩) fun r s1 hr => ?_
  cases r with
  | error e => exact hr
  | ok fl =>
    cases fl with
    | ret obj =>
      obtain ⟨rfl, rfl⟩ := hr
      have hT : Shared.TypeIs { s with heap := s.heap.push (newSet w) } (.ref s.heap.objs.size) "set" := ⟨_, Heap.get?_push_size _ rfl, rfl⟩
      have hli := PySem.F.called_set.init.lookup
      have hbi := PySem.F.called_set.init.bind (.ref s.heap.objs.size)
      repeat (any_goals (first | assumption | wp_step))
      refine codeAny_mono (codeAny_call_builtin (R := wants (fun r s2 => SetMade w s ns r s2) E) PySem.F.called_set.init.plain PySem.F.entry_set_init (check_set_init_1 hT ?_)) fun r2 s2 hr2 => ?_
      · refine wpAny_mono (set_init_list (E := fun e s' => wants (fun r s2 => SetMade w s ns r s2) E (.error e) s') (by simp [hh]) hl hit hb) (fun f s2 hf => ?_) fun _ _ z => z
        obtain ⟨r, rfl, hf⟩ := hf
        exact hf
      · cases r2 with
        | error e => exact hr2
        | ok fl2 =>
          cases fl2 with
          | ret r =>
            obtain ⟨rfl, hm⟩ := hr2
            repeat (any_goals (first | assumption | wp_step))
            exact h _ ⟨rfl, hm⟩
          | _ => exact hr2.elim
    | _ => exact hr.elim
theorem set_init_tup {l : Addr} {items : Array Value} {ns : List Int} (hh : A.handled = none) (hl : s.heap.IsTuple l items) (hit : IntsAre items.toList ns) (hb : ns.length + 1 < scanBound) :
    wpAny (model P w) A (Builtin.«set.__init__» ⟨[.ref s.heap.objs.size, .ref l], []⟩) (fun f s2 => ∃ r, f = .done (.ret r) ∧ SetMade w s ns r s2) E { s with heap := s.heap.push (newSet w) } := by
  have hz : items.size = ns.length := by
    have q := IntsAre.length hit
    rwa [Array.length_toList] at q
  have hlt : l < s.heap.objs.size := by obtain ⟨o, q, _⟩ := hl; exact Heap.lt_size q
  have e1 : (s.heap.push (newSet w)).objs.size = s.heap.objs.size + 1 := Heap.size_push ..
  have hS : (s.heap.push (newSet w)).get? s.heap.objs.size = some (newSet w) := Heap.get?_push_size _ rfl
  have hT : Shared.TypeIs { s with heap := s.heap.push (newSet w) } (.ref s.heap.objs.size) "set" := ⟨_, hS, rfl⟩
  have hL : (s.heap.push (newSet w)).IsTuple l items := hl.push _
  obtain ⟨⟨oc, odi, oda, osl⟩, ho, hc, nl, hd⟩ := id hL
  simp only at hc hd
  subst hc hd
  have q1 := PySem.F.sub_tuple_set
  have q2 := PySem.F.sub_tuple_frozenset
  have q3 : (Value.type "tuple" == Value.type "dict") = false := by decide
  unfold Builtin.«set.__init__» noKeywords Builtin.Frozenset.updateFrom
  generalize hPI : pyIter = PI
  wp_walk
  subst hPI
  refine wpAny_pyIter_tuple hL (wpAny_bind (wpAny_runValue ?_))
  have hne : l ≠ (s.heap.push (newSet w)).objs.size := by rw [e1]; exact Nat.ne_of_lt (Nat.lt_succ_of_lt hlt)
  have hnf : s.heap.objs.size ∉ [(s.heap.push (newSet w)).objs.size, l] := by
    rw [e1]
    simp only [List.mem_cons, List.not_mem_nil, or_false, not_or]
    exact ⟨Nat.ne_of_lt (Nat.lt_succ_self _), Nat.ne_of_gt hlt⟩
  have hval : ∀ (i : Nat) (v : Value), items[i]? = some v → ∃ k t, ns[i]? = some k ∧ v = .int k t := fun i v hv => by
    have hi : i < ns.length := by rw [← hz]; exact (Array.getElem?_eq_some_iff.mp hv).1
    obtain ⟨t, e⟩ := PyProof.Rows.IntsAre.int_at hit i v (by rw [Array.getElem?_toList]; exact hv)
    exact ⟨ns[i], t, List.getElem?_eq_getElem hi, by rw [e, List.getD_eq_getElem?_getD, List.getElem?_eq_getElem hi] <;> rfl⟩
  refine set_update_ints ((Walks.tuple (by simp [hh]) _ l hne items).toS) s.heap.objs.size hnf ns hz hb hval items.size 0 _ (by omega) (Nat.zero_le _) ⟨⟨_, Heap.get?_push_size _ rfl, rfl, rfl⟩, hL.push _⟩
    ⟨0, Nat.le_refl 0, setR_new_at (Heap.get?_push_of_some _ hS)⟩ fun s' c hm hc hR => ?_
  have e2 : s' = { s with heap := s'.heap, toks := s'.toks } := by
    have a1 := hm.gens
    have a2 := hm.drawn
    have a3 := hm.os
    cases s'
    simp only at a1 a2 a3
    subst a1 a2 a3
    rfl
  refine wpAny_pure (wpAny_pure ⟨.none, rfl, rfl, s'.heap, s'.toks, c, e2, hR, by rw [← hz]; exact hc, fun b o e => ?_⟩)
  have hb0 : b < s.heap.objs.size := Heap.lt_size e
  refine hm.heap b o ?_ (Heap.get?_push_of_some _ (Heap.get?_push_of_some _ e))
  rw [e1]
  simp only [List.mem_cons, List.not_mem_nil, or_false, not_or]
  exact ⟨Nat.ne_of_lt hb0, Nat.ne_of_lt (Nat.lt_succ_of_lt hb0)⟩
theorem call_set_intsT {l : Addr} {items : Array Value} {ns : List Int} {Q : Value → Shared → Prop} (hh : A.handled = none) (hl : s.heap.IsTuple l items) (hit : IntsAre items.toList ns) (hb : ns.length + 1 < scanBound)
    (h : ∀ s', SetMade w s ns .none s' → Q (.ref s.heap.objs.size) s') : wpAny (model P w) A (call (.type "set") [.ref l]) Q E s := by
  obtain ⟨c, tl, hmro⟩ := PySem.F.called_set.mro
  have hmade := PySem.F.called_set.made
  have hsub := PySem.F.called_set.sub
  refine wpAny_call (codeAny_of_tree ?_)
  show wpAny _ _ (callAny (.type "set") _) _ _ _
  refine wpAny_pure ⟨Code.quiet_builtin _ (by decide +kernel), codeAny_builtin PySem.F.entry_type_call ?_⟩
  rw [Around.under_plain (weight_type_call_type "set" [.ref l] []) rfl]
  have h1 := PySem.F.called_set.notType
  have h2 := PySem.F.called_set.canCreate
  have hct := PySem.F.typeCall_set_1 (.ref l)
  repeat (any_goals (first | assumption | wp_step))
  refine codeAny_mono (code_set_led1 (.ref l) (E := E) (Q₁ := fun obj s1 => obj = .ref s.heap.objs.size ∧ s1 = { s with heap := s.heap.push (newSet w) }) ⟨rfl, rfl⟩) fun r s1 hr => ?_
  cases r with
  | error e => exact hr
  | ok fl =>
    cases fl with
    | ret obj =>
      obtain ⟨rfl, rfl⟩ := hr
      have hT : Shared.TypeIs { s with heap := s.heap.push (newSet w) } (.ref s.heap.objs.size) "set" := ⟨_, Heap.get?_push_size _ rfl, rfl⟩
      have hli := PySem.F.called_set.init.lookup
      have hbi := PySem.F.called_set.init.bind (.ref s.heap.objs.size)
      repeat (any_goals (first | assumption | wp_step))
      refine codeAny_mono (codeAny_call_builtin (R := wants (fun r s2 => SetMade w s ns r s2) E) PySem.F.called_set.init.plain PySem.F.entry_set_init (check_set_init_1 hT ?_)) fun r2 s2 hr2 => ?_
      · refine wpAny_mono (set_init_tup (E := fun e s' => wants (fun r s2 => SetMade w s ns r s2) E (.error e) s') (by simp [hh]) hl hit hb) (fun f s2 hf => ?_) fun _ _ z => z
        obtain ⟨r, rfl, hf⟩ := hf
        exact hf
      · cases r2 with
        | error e => exact hr2
        | ok fl2 =>
          cases fl2 with
          | ret r =>
            obtain ⟨rfl, hm⟩ := hr2
            repeat (any_goals (first | assumption | wp_step))
            exact h _ ⟨rfl, hm⟩
          | _ => exact hr2.elim
    | _ => exact hr.elim
end
/-- put into a strictly ascending list -/
def insI (x : Int) : List Int → List Int
  | [] => [x]
  | y :: r => if x < y then x :: y :: r else if x = y then y :: r else y :: insI x r
def sSet : List Int → List Int
  | [] => []
  | x :: r => insI x (sSet r)
theorem insI_mem (x k : Int) : ∀ l : List Int, k ∈ insI x l ↔ k = x ∨ k ∈ l
  | [] => by simp [insI]
  | y :: r => by
    unfold insI
    split
    · simp
    · split
      · rename_i h; subst h; simp
      · simp only [List.mem_cons, insI_mem x k r]
        constructor <;> (intro h; rcases h with h | h | h <;> simp [h])
theorem sSet_mem (k : Int) : ∀ l : List Int, k ∈ sSet l ↔ k ∈ l
  | [] => by simp [sSet]
  | x :: r => by simp only [sSet, insI_mem, sSet_mem k r, List.mem_cons]
theorem insI_asc (x : Int) : ∀ l : List Int, l.Pairwise (· < ·) → (insI x l).Pairwise (· < ·)
  | [], _ => by simp [insI]
  | y :: r, h => by
    obtain ⟨h1, h2⟩ := List.pairwise_cons.mp h
    unfold insI
    split
    · rename_i hx
      refine List.pairwise_cons.mpr ⟨fun z hz => ?_, h⟩
      rcases List.mem_cons.mp hz with rfl | hz
      · exact hx
      · exact Int.lt_trans hx (h1 z hz)
    · split
      · exact h
      · rename_i h3 h4
        refine List.pairwise_cons.mpr ⟨fun z hz => ?_, insI_asc x r h2⟩
        rcases (insI_mem x z r).mp hz with rfl | hz
        · omega
        · exact h1 z hz
theorem sSet_asc : ∀ l : List Int, (sSet l).Pairwise (· < ·)
  | [] => List.Pairwise.nil
  | x :: r => insI_asc x _ (sSet_asc r)
theorem insI_le (x : Int) : ∀ l : List Int, (insI x l).length ≤ l.length + 1
  | [] => by simp [insI]
  | y :: r => by
    unfold insI
    split
    · simp
    · split
      · simp
      · simpa using insI_le x r
theorem sSet_le : ∀ l : List Int, (sSet l).length ≤ l.length
  | [] => by simp [sSet]
  | x :: r => by
    have h1 := insI_le x (sSet r)
    have h2 := sSet_le r
    simp only [sSet, List.length_cons]
    omega
theorem asc_ext : ∀ {a b : List Int}, a.Pairwise (· < ·) → b.Pairwise (· < ·) → (∀ k, k ∈ a ↔ k ∈ b) → a = b
  | [], [], _, _, _ => rfl
  | [], y :: _, _, _, h => by have := (h y).mpr (by simp); simp at this
  | x :: _, [], _, _, h => by have := (h x).mp (by simp); simp at this
  | x :: a, y :: b, ha, hb, h => by
    obtain ⟨a1, a2⟩ := List.pairwise_cons.mp ha
    obtain ⟨b1, b2⟩ := List.pairwise_cons.mp hb
    have e : x = y := by
      have h1 := (h x).mp (by simp)
      have h2 := (h y).mpr (by simp)
      rcases List.mem_cons.mp h1 with h1 | h1
      · exact h1
      · rcases List.mem_cons.mp h2 with h2 | h2
        · exact h2.symm
        · have := a1 y h2; have := b1 x h1; omega
    subst e
    congr 1
    refine asc_ext a2 b2 fun k => ?_
    have hk := h k
    simp only [List.mem_cons] at hk
    constructor
    · intro q
      have := a1 k q
      rcases hk.mp (.inr q) with e | z
      · omega
      · exact z
    · intro q
      have := b1 k q
      rcases hk.mpr (.inr q) with e | z
      · omega
      · exact z
/-- set(x), x a list of ints, a tuple of ints -/
def rSetL (K : Fr) (w : World) : List V → Hp → VK → Prop := fun vs H Q => ∃ (a : Addr) (ns : List Int), vs = [V.ref a] ∧ (SqL K H a (ns.map V.int) ∨ SqT K H a (ns.map V.int)) ∧ ns.length + 1 < scanBound ∧
  ∀ (p : Addr) (c : Nat), c = (sSet ns).length → H p = none → Q (.ref p) (upd H p (SetO w p (fun j => decide (j ∈ ns)) c))
theorem asc_nodup {l : List Int} (h : l.Pairwise (· < ·)) : l.Nodup := h.imp fun q e => by subst e; exact absurd q (Int.lt_irrefl _)
theorem setR_size {w : World} {h : Heap} {a : Addr} {ns : List Int} {c : Nat} (R : SetR w h a (fun j => decide (j ∈ ns)) c) : c = (sSet ns).length := by
  obtain ⟨o, es, ep, t, _, _, _, _, nd, hm, _, _, hn, _⟩ := R
  have pm : (es.toList.map keyOf).Perm (sSet ns) := (List.perm_ext_iff_of_nodup nd (asc_nodup (sSet_asc ns))).mpr fun k => by
    rw [sSet_mem, ← hm k, decide_eq_true_eq]
  have := pm.length_eq
  rw [List.length_map, Array.length_toList] at this
  omega
theorem cr_setL {X : Cx} (hc : X.calm = true) : CallR X (.type "set") (rSetL X.K X.w) := by
  intro pins s σ H vs us Q I r h
  obtain ⟨a, ns, rfl, ha, hb, q⟩ := h
  rw [Vals.ref1 r]
  rcases ha with ha | ha
  · obtain ⟨its, rv, p, hz⟩ := I.list ha
    have hit : IntsAre its.toArray.toList ns := by
      rw [List.toList_toArray]
      exact ints_of_vals rv
    refine call_set_ints (I.ok.hd hc) p.isList hit hb fun s' ⟨_, h', tk, c, e, R, hcn, k⟩ => ?_
    subst e
    have hn : H s.heap.objs.size = none := I.hok.fresh (Nat.le_refl _)
    exact ⟨.ref s.heap.objs.size, _, I.laid (t' := tk) k (Nat.le_refl _) (setO_new R), rfl, q _ c (setR_size R) hn⟩
  · obtain ⟨its, rv, p, hz⟩ := I.tuple ha
    have hit : IntsAre its.toArray.toList ns := by
      rw [List.toList_toArray]
      exact ints_of_vals rv
    refine call_set_intsT (I.ok.hd hc) p hit hb fun s' ⟨_, h', tk, c, e, R, hcn, k⟩ => ?_
    subst e
    have hn : H s.heap.objs.size = none := I.hok.fresh (Nat.le_refl _)
    exact ⟨.ref s.heap.objs.size, _, I.laid (t' := tk) k (Nat.le_refl _) (setO_new R), rfl, q _ c (setR_size R) hn⟩
def intsDat (ns : List Int) : List Dat := ns.map .int
theorem reps_ints {K : Fr} {F : Hp} : ∀ ns : List Int, Reps K F (intsDat ns) (ns.map V.int)
  | [] => rfl
  | n :: ns => ⟨_, _, rfl, rfl, reps_ints ns⟩
/-- the items of a list, of a tuple -/
def seqsT : DV → List Cel → Option (List Dat)
  | .d (.tup ds), _ => some ds
  | v, μ => seqs v μ
def sortSetD : G1 := fun x μ => match (seqsT x μ).bind intsD with
  | some ns => if ns.length < 1000 ∧ (sSet ns).length < 64 then okD (.lst (intsDat (sSet ns))) μ else .stuck
  | none => .stuck
section
variable {X : Cx} {W : WX} {p p2 pos pos2 : Pos} {e : Expr} {x : EX}
/-- sorted(set(e)) -/
theorem de_sortedSet (hc : X.calm = true) (hg : Gl X "sorted") (hm : X.mg "sorted" = none) (hg2 : Gl X "set") (hm2 : X.mg "set" = none) (he : DE X W e x) (hs : starEach [e] X.env = (false, eval e X.env) :: starEach [] X.env := by rfl)
    (hs2 : starEach [.Call (.Name "set" p2) [e] [] pos2] X.env = (false, eval (.Call (.Name "set" p2) [e] [] pos2) X.env) :: starEach [] X.env := by rfl) : DE X W (.Call (.Name "sorted" p) [.Call (.Name "set" p2) [e] [] pos2] [] pos) (e1 sortSetD x) := by
  refine ⟨PE.of (pe_callB (cr_sortedSet hc) hg hm (by decide +kernel) (pa_cons (pe_callTy (cr_setL hc) hg2 hm2 (by decide +kernel) (da_cons he da_nil hs).pa (by decide) (by decide) hs (by rfl)) pa_nil hs2) (by decide) (by decide) hs2 (by rfl)) fun σ H Q hh => ?_⟩
  have hw : tD X.K W x σ H fun v H1 => ∃ a ns, v = .ref a ∧ (SqL X.K H1 a (ns.map V.int) ∨ SqT X.K H1 a (ns.map V.int)) ∧ ns.length + 1 < scanBound ∧ ∃ F α μ, Mem X.K F H1 α μ ∧ (sSet ns).length < 64 ∧ OutOk (RV X.K) X.K F α (okD (.lst (intsDat (sSet ns))) μ) Q (fun cls dx H' => W cls dx σ H') := by
    refine tX_bind (f := fun _ x μ => sortSetD x μ) hh fun F α ρ μ v u H1 m s rv o => ?_
    unfold sortSetD at o
    cases q : seqsT v μ with
    | none => rw [q] at o; exact o.elim
    | some ds =>
      rw [q] at o
      cases q2 : intsD ds with
      | none => simp only [Option.bind_some, q2] at o; exact o.elim
      | some ns =>
        simp only [Option.bind_some, q2] at o
        by_cases hz : ns.length < 1000 ∧ (sSet ns).length < 64
        · rw [if_pos hz] at o
          obtain ⟨a, xs, rfl, hl, rr⟩ : ∃ a xs, u = V.ref a ∧ (SqL X.K H1 a xs ∨ SqT X.K H1 a xs) ∧ Reps X.K F ds xs := by
            unfold seqsT at q
            split at q
            · cases q
              obtain ⟨z, a, xs, rfl, hx, rr⟩ := rv
              exact ⟨a, xs, rfl, .inr (sqT_le m.fz hx), rr⟩
            · obtain ⟨a, xs, rfl, hl, rr, z⟩ := seqs_of m rv q
              exact ⟨a, xs, rfl, .inl hl, rr⟩
          cases ints_of rr q2
          exact ⟨a, ns, rfl, hl, Nat.lt_trans (Nat.succ_lt_succ hz.1) (by decide), F, α, μ, m, hz.2, o⟩
        · rw [if_neg hz] at o; exact o.elim
  obtain ⟨F, α, ρ, μ, m, s, o⟩ := hw
  -- the argument, then set, then sorted
  refine tX_mk (x := as1 x as0) (R := RVs X.K) m s ?_
  show OutOk (RVs X.K) X.K F α ((x ρ μ).bind fun v μ => (as0 ρ μ).bind fun vs μ => .ok (v :: vs) μ) _ _
  cases q : x ρ μ with
  | stuck => rw [q] at o; exact o
  | raise ex μ1 => rw [q] at o; exact o
  | ok v μ1 =>
    rw [q] at o
    intro us F1 α1 H1 g1 m1 r1
    obtain ⟨u, rfl, ru⟩ := repVs1 r1
    obtain ⟨a, ns, rfl, hl, hb, F2, α2, μ2, m2, h64, o2⟩ := o u F1 α1 H1 g1 m1 ru
    refine ⟨a, ns, rfl, hl, hb, fun p c hcn hp => ?_⟩
    have l3 := Le.new (o := SetO X.w p (fun j => decide (j ∈ ns)) c) hp
    have m3 := m2.more l3
    refine ⟨p, _, c, rfl, upd_same, ?_, fun zs q ha hz hl hq => ?_⟩
    · rw [hcn]; exact h64
    · have ez : zs = sSet ns := asc_ext ha (sSet_asc ns) fun k => by rw [hz k, sSet_mem, decide_eq_true_eq]
      subst ez
      exact out_lst m3 (reps_ints _) (by simp [intsDat]; exact Nat.le_trans (Nat.le_of_lt h64) (by decide)) o2 q hq
end
end DL
set_option Elab.async false
set_option linter.all false
set_option maxRecDepth 100000
set_option maxHeartbeats 4000000
namespace DL
open PySem PySem.Spec PyProof.Rows L2
def isLstV : DV → List Cel → Bool
  | .d (.lst _), _ => true
  | .d (.fl _), _ => true
  | .c n, μ => (match μ[n]? with
    | some (.lst _) => true
    | some (.lv _) => true
    | _ => false)
  | _, _ => false
theorem isLst_of {K : Fr} {F H : Hp} {α : List Addr} {μ : List Cel} (m : Mem K F H α μ) {d : DV} {x : V} (r : RepV K F α d x) (h : isLstV d μ = true) : tyV K "list" x H := by
  unfold isLstV at h
  split at h
  · obtain ⟨z, a, xs, rfl, hx, rr⟩ := r
    exact .inl ⟨rfl, xs, SqL.of (m.fz _ _ hx)⟩
  · obtain ⟨z, a, xs, rfl, hx, rr⟩ := r
    exact .inl ⟨rfl, xs, sqL_le m.fz hx⟩
  · rename_i n
    obtain ⟨a, ha, rfl⟩ := r
    split at h
    · rename_i ds q
      obtain ⟨h0, z, xs, hx, rr⟩ := m.ok n _ a q ha
      exact .inl ⟨rfl, xs, SqL.of hx⟩
    · rename_i ds q
      obtain ⟨h0, z, xs, hx, rr⟩ := m.ok n _ a q ha
      exact .inl ⟨rfl, xs, SqL.of hx⟩
    · cases h
  · cases h
/-- a method of a list, one argument -/
def eLm1 (g : G2) (a b : EX) : EX := fun ρ μ => (a ρ μ).bind fun x μ => if isLstV x μ = true then (b ρ μ).bind fun y μ => g x y μ else .stuck
def appendD : G2 := fun x y μ => match x, y with
  | .c n, .d v => (match μ[n]? with
    | some (.lst ds) => if ds.length < LIM then .ok (.d .non) (μ.set n (.lst (ds ++ [v]))) else .stuck
    | _ => .stuck)
  | _, _ => .stuck
def extendD : G2 := fun x y μ => match x, y with
  | .c n, .d (.lst es) => (match μ[n]? with
    | some (.lst ds) => if ds.length + es.length ≤ LIM then .ok (.d .non) (μ.set n (.lst (ds ++ es))) else .stuck
    | _ => .stuck)
  | _, _ => .stuck
section
variable {X : Cx} {W : WX} {o e : Expr} {xo xe : EX} {apos cpos : Pos}
theorem lm1 {g : G2} {r : V → List V → Hp → VK → Prop} {σ : St} {H : Hp} {Q : VK} (ok : ∀ F α μ H d1 d2 x y (Q : VK) (W : XK), Mem X.K F H α μ → RepV X.K F α d1 x → RepV X.K F α d2 y → OutOk (RV X.K) X.K F α (g d1 d2 μ) Q W → r x [y] H Q) (h : tD X.K W (eLm1 g xo xe) σ H Q) :
    tBM X.K "list" r (tD X.K W xo) (tDs X.K W (as1 xe as0)) σ H Q := by
  refine tX_bind (f := fun ρ x μ => if isLstV x μ = true then (xe ρ μ).bind fun y μ => g x y μ else .stuck) h fun F α ρ μ v u H1 m s rv o => ?_
  by_cases hl : isLstV v μ = true
  · simp only [hl, if_true] at o
    refine ⟨isLst_of m rv hl, tX_mk m s ?_⟩
    show OutOk (RVs X.K) X.K F α ((xe ρ μ).bind fun v μ => (as0 ρ μ).bind fun vs μ => .ok (v :: vs) μ) _ _
    cases q : xe ρ μ with
    | stuck => rw [q] at o; exact o
    | raise ex μ1 => rw [q] at o; exact o
    | ok w μ1 =>
      rw [q] at o
      intro us F1 α1 H2 g1 m1 r1
      obtain ⟨y, rfl, ry⟩ := repVs1 r1
      exact ok F1 α1 μ1 H2 v w u y Q _ m1 (rv.grow g1) ry (OutOk.grow g1 (show OutOk (RV X.K) X.K F α (g v w μ1) Q _ from o))
  · simp only [hl, if_false] at o; exact o.elim
theorem de_append (ho : DE X W o xo) (he : DE X W e xe) (hbase : attributeBase o "append" X.env (eval o X.env) = eval o X.env := by rfl)
    (hfew : ((backTo cpos (starEach (e :: []) X.env)).all (fun x => !x.1) && (backToKw cpos (keywordEach [] X.env)).all (fun x => x.1.isSome)
      && decide ((e :: []).length + ([] : List Keyword).length + (if ([] : List Keyword).isEmpty then 0 else 1) < 30)) = true := by rfl)
    (hline : (apos.endLine == cpos.line) = true := by rfl) (hs : starEach (e :: []) X.env = (false, eval e X.env) :: starEach [] X.env := by rfl) : DE X W (.Call (.Attribute o "append" apos) [e] [] cpos) (eLm1 appendD xo xe) := by
  refine ⟨PE.of (pe_bm PySem.F.plainAttrs_list PySem.F.slot_list_append PySem.F.type_list_append mt_append ho.pe (da_cons he da_nil hs).pa hbase hfew hline hs (by rfl)) fun σ H Q h => lm1 (fun F α μ H d1 d2 x y Q W m r1 r2 o => ?_) h⟩
  unfold appendD at o
  split at o
  · rename_i n v
    obtain ⟨a, ha, rfl⟩ := r1
    cases q : μ[n]? with
    | none => rw [q] at o; exact o.elim
    | some cl =>
      rw [q] at o
      cases cl with
      | ins _ _ => exact o.elim
      | dead => exact o.elim
      | lv _ => exact o.elim
      | lst ds =>
        simp only at o
        obtain ⟨h0, z, xs, hx, rr⟩ := m.ok n _ a q ha
        by_cases hz : ds.length < LIM
        · rw [if_pos hz] at o
          refine ⟨a, xs, y, rfl, rfl, hx, by rw [← rr.length]; exact lim_lt hz, ?_⟩
          exact OutOk.here (R := RV X.K) o (m.write (o := .lst (xs ++ [y])) (c := .lst (ds ++ [v])) ha h0 ⟨h0, by simp; omega, _, upd_same, rr.append (.cons r2 .nil)⟩) rfl
        · rw [if_neg hz] at o; exact o.elim
  · exact o.elim
theorem de_extend (ho : DE X W o xo) (he : DE X W e xe) (hbase : attributeBase o "extend" X.env (eval o X.env) = eval o X.env := by rfl)
    (hfew : ((backTo cpos (starEach (e :: []) X.env)).all (fun x => !x.1) && (backToKw cpos (keywordEach [] X.env)).all (fun x => x.1.isSome)
      && decide ((e :: []).length + ([] : List Keyword).length + (if ([] : List Keyword).isEmpty then 0 else 1) < 30)) = true := by rfl)
    (hline : (apos.endLine == cpos.line) = true := by rfl) (hs : starEach (e :: []) X.env = (false, eval e X.env) :: starEach [] X.env := by rfl) : DE X W (.Call (.Attribute o "extend" apos) [e] [] cpos) (eLm1 extendD xo xe) := by
  refine ⟨PE.of (pe_bm PySem.F.plainAttrs_list PySem.F.slot_list_extend PySem.F.type_list_extend mt_extend ho.pe (da_cons he da_nil hs).pa hbase hfew hline hs (by rfl)) fun σ H Q h => lm1 (fun F α μ H d1 d2 x y Q W m r1 r2 o => ?_) h⟩
  unfold extendD at o
  split at o
  · rename_i n es
    obtain ⟨a, ha, rfl⟩ := r1
    obtain ⟨z2, b, ys, rfl, hy, rr2⟩ := r2
    cases q : μ[n]? with
    | none => rw [q] at o; exact o.elim
    | some cl =>
      rw [q] at o
      cases cl with
      | ins _ _ => exact o.elim
      | dead => exact o.elim
      | lv _ => exact o.elim
      | lst ds =>
        simp only at o
        obtain ⟨h0, z, xs, hx, rr⟩ := m.ok n _ a q ha
        by_cases hz : ds.length + es.length ≤ LIM
        · rw [if_pos hz] at o
          refine ⟨a, b, xs, ys, rfl, rfl, hx, m.fz _ _ hy, by rw [← rr.length, ← rr2.length]; exact lim_line hz, ?_⟩
          exact OutOk.here (R := RV X.K) o (m.write (o := .lst (xs ++ ys)) (c := .lst (ds ++ es)) ha h0 ⟨h0, by simp; omega, _, upd_same, rr.append rr2⟩) rfl
        · rw [if_neg hz] at o; exact o.elim
  · exact o.elim
end
/-- the name of a datum's type -/
def tyNm : DV → List Cel → Option String
  | .d .non, _ => some "NoneType"
  | .d (.bl _), _ => some "bool"
  | .d (.int _), _ => some "int"
  | .d (.str _), _ => some "str"
  | .d (.tup _), _ => some "tuple"
  | .d (.lst _), _ => some "list"
  | .d .dic, _ => some "dict"
  | .c n, μ => (match μ[n]? with
    | some (.lst _) => some "list"
    | _ => none)
  | _, _ => none
theorem sqT_ty {K : Fr} {H : Hp} {a : Addr} {xs : List V} (h : SqT K H a xs) : TyX K H (.ref a) (.type "tuple") := by
  rcases h with (h | ⟨o, h⟩) | ⟨o, its, n, h, c, _⟩
  · exact .base (.tup h)
  · exact .fTuple h
  · exact .kTuple h c
theorem ty_of {K : Fr} {F H : Hp} {α : List Addr} {μ : List Cel} (m : Mem K F H α μ) {d : DV} {x : V} {t : String} (r : RepV K F α d x) (h : tyNm d μ = some t) : TyX K H x (.type t) := by
  unfold tyNm at h
  split at h
  · cases r; cases h; exact .base .non
  · cases r; cases h; exact .base (.bl _)
  · cases r; cases h; exact .base (.int _)
  · obtain ⟨_, rfl⟩ := r; cases h; exact .base (.str _)
  · obtain ⟨z, a, xs, rfl, hx, rr⟩ := r; cases h; exact sqT_ty (sqT_le m.fz hx)
  · obtain ⟨z, a, xs, rfl, hx, rr⟩ := r; cases h; exact .base (.lst (m.fz _ _ hx))
  · obtain ⟨a, rfl, hx⟩ := r; cases h; exact .base (.dK (m.fz _ _ hx))
  · rename_i n
    obtain ⟨a, ha, rfl⟩ := r
    split at h
    · rename_i ds q
      obtain ⟨h0, z, xs, hx, rr⟩ := m.ok n _ a q ha
      cases h
      exact .base (.lst hx)
    · cases h
  · cases h
def tysL : List String := ["NoneType", "bool", "int", "str", "tuple", "list", "dict"]
def isiB (t T : String) : Bool := t == T || (t == "bool" && T == "int")
theorem isiB_ok : ∀ t ∈ tysL, ∀ T ∈ tysL, kitB t T = some (isiB t T) := by decide +kernel
theorem tyNm_in {d : DV} {μ : List Cel} {t : String} (h : tyNm d μ = some t) : t ∈ tysL := by
  unfold tyNm at h
  split at h
  · cases h; decide
  · cases h; decide
  · cases h; decide
  · cases h; decide
  · cases h; decide
  · cases h; decide
  · cases h; decide
  · split at h
    · cases h; decide
    · cases h
  · cases h
def isiG (T : String) : G1 := fun x μ => match tyNm x μ with
  | some t => okD (.bl (isiB t T)) μ
  | none => .stuck
section
variable {X : Cx} {W : WX} {p p2 pos : Pos} {e : Expr} {x : EX}
theorem pe_tyN {y : Str} {T : String} (hg : Gl X y) (hm : X.mg y = none) (hv : bootBuiltins y = some (.type T)) (hn : y ≠ "__name__" := by decide) (hd : (y == ("__debug__" : Str)) = false := by decide) : PE X (.Name y p) (tC (.ty T)) :=
  ⟨fun pins s σ H Q I h => ld_blt I hg hm hv ⟨.ty T, H, I, rfl, h⟩ hn hd⟩
/-- isinstance(e, T), T a built-in type -/
theorem de_isi {y : Str} (T : String) (hg : Gl X "isinstance") (hm : X.mg "isinstance" = none) (hg2 : Gl X y) (hm2 : X.mg y = none) (hv : bootBuiltins y = some (.type T)) (hT : T ∈ tysL) (he : DE X W e x) (hn : y ≠ "__name__" := by decide) (hd : (y == ("__debug__" : Str)) = false := by decide)
    (hs : starEach [e, .Name y p2] X.env = (false, eval e X.env) :: starEach [.Name y p2] X.env := by rfl) (hs2 : starEach [.Name y p2] X.env = (false, eval (.Name y p2) X.env) :: starEach [] X.env := by rfl) (hpl : (backTo pos (starEach [.Name y p2] X.env)).any (·.1) = false := by rfl) :
    DE X W (.Call (.Name "isinstance" p) [e, .Name y p2] [] pos) (e1 (isiG T) x) := by
  refine ⟨PE.of (pe_callB call_isi hg hm boot_isinstance (pa_cons he.pe (pa_cons (pe_tyN hg2 hm2 hv hn hd) pa_nil hs2) hs) (by decide) (by decide) hs hpl) fun σ H Q h => ?_⟩
  refine tX_bind (f := fun _ x μ => isiG T x μ) h fun F α ρ μ v u H1 m s rv o => ?_
  unfold isiG at o
  cases q : tyNm v μ with
  | none => rw [q] at o; exact o.elim
  | some t =>
    rw [q] at o
    exact ⟨u, .ty T, .type t, .type T, isiB t T, rfl, .ty T, ty_of m rv q, kit_ty (isiB_ok t (tyNm_in q) T hT), outB m o⟩
end
def reprD (d : Dat) : List Nat := (pyD d).shown.cps.toList
def reprOk (d : Dat) : Bool := shal 60 d && ((pyD d).showable && decide ((pyD d).shown.length ≤ LIM))
def reprG : G1
  | .d (.lst ds), μ => if reprOk (.lst ds) then okD (.str (reprD (.lst ds))) μ else .stuck
  | .d (.tup ds), μ => if reprOk (.tup ds) then okD (.str (reprD (.tup ds))) μ else .stuck
  | _, _ => .stuck
theorem sV_repr (d : Dat) : sV (reprD d) = (pyD d).shown := by
  unfold sV reprD
  simp
theorem reprD_len (d : Dat) : (reprD d).length = (pyD d).shown.length := by
  unfold reprD Str.length
  simp
def rReprD (K : Fr) : List V → Hp → VK → Prop := fun xs H Q => ∃ (a : Addr) (d : PyData), xs = [.ref a] ∧ Dp K H (.ref a) d ∧ d.canLay0 = true ∧ d.depth ≤ 61 ∧ d.showable = true ∧ d.shown.length ≤ sizeLine ∧ Q (.str d.shown) H
theorem call_reprD {X : Cx} (hg : X.A.guards = some []) (hu : X.A.units + 64 < cLine) : CallR X (.builtin "repr") (rReprD X.K) := by
  intro pins s σ H xs us Q I r h
  obtain ⟨a, d, rfl, dp, hc, hd, hs, hz, q⟩ := h
  rw [Vals.ref1 r]
  obtain ⟨as, rd⟩ := Dp.reads I d (.ref a) (.ref a) dp rfl
  refine repr_of_reads' rd hs (fun z => ?_) hg (by omega) (fun b o e => e) (fun h' u tk k => ?_) hz
  · rw [PySem.PyData.hasDict_of_canLay d hc] at z; cases z
  · exact ⟨.str d.shown, H, I.kept (t' := tk) k, ⟨u, rfl⟩, q⟩
section
variable {X : Cx} {W : WX} {p pos : Pos} {e : Expr} {x : EX}
theorem de_repr {k : Nat} (hr : RoomG k X.A) (hg : Gl X "repr") (hm : X.mg "repr" = none) (he : DE X W e x) (hs : starEach [e] X.env = (false, eval e X.env) :: starEach [] X.env := by rfl) : DE X W (.Call (.Name "repr" p) [e] [] pos) (e1 reprG x) := by
  refine ⟨PE.of (pe_callB (call_reprD hr.g hr.r.units) hg hm (by decide +kernel) (pa_cons he.pe pa_nil hs) (by decide) (by decide) hs (by rfl)) fun σ H Q h => ?_⟩
  refine tX_bind (f := fun _ x μ => reprG x μ) h fun F α ρ μ v u H1 m s rv o => ?_
  have fin : ∀ d, reprOk d = true → (∃ a, u = .ref a) → Rep X.K F d u → OutOk (RV X.K) X.K F α (okD (.str (reprD d)) μ) Q (fun cls dx H' => W cls dx σ H') → rReprD X.K [u] H1 Q := fun d hd ⟨a, ea⟩ rd o => by
    subst ea
    unfold reprOk at hd
    simp only [Bool.and_eq_true, decide_eq_true_eq] at hd
    obtain ⟨h1, h2, h3⟩ := hd
    obtain ⟨c1, c2⟩ := lay_of d 60 h1
    refine ⟨a, pyD d, rfl, dp_of m.fz 60 d _ h1 rd, c1, c2, h2, lim_line h3, ?_⟩
    have z := outS m (by rw [reprD_len]; exact h3) o
    rw [sV_repr] at z
    exact z
  unfold reprG at o
  split at o
  · split at o
    · rename_i hd
      exact fin _ hd (by obtain ⟨z, a, xs, e, _⟩ := rv; exact ⟨a, e⟩) rv o
    · exact o.elim
  · split at o
    · rename_i hd
      exact fin _ hd (by obtain ⟨z, a, xs, e, _⟩ := rv; exact ⟨a, e⟩) rv o
    · exact o.elim
  · exact o.elim
end
def bolG (o : Out DV) : Out DV := o.bind fun v μ => match v with
  | .d (.bl b) => okD (.bl b) μ
  | _ => .stuck
def inOwnG (c : Nat) (g : Gn) : G2 := fun x y μ => if insC y μ = some c then bolG (noR (g [y, x] μ)) else .stuck
end DL
set_option Elab.async false
set_option linter.all false
set_option maxRecDepth 100000
set_option maxHeartbeats 4000000
namespace DL
open PySem PySem.Spec PyProof.Rows L2
def KwChainT (D : Addr) (rest : List Value) (pv : Str) (r : List (Str × Value)) : List (Str × Value) → Sem (List (Str × Value)) → Prop
  | [], t => t = (newTuple rest >>= fun tv => pure (r ++ [(pv, tv)]))
  | q :: l, t => ∃ (β γ : Type) (k1 : Option Value → Sem β) (k2 : β → Sem γ) (k3 : γ → Sem (List (Str × Value))) (a : β), t = ((nsGet D q.1 >>= k1) >>= k2) >>= k3 ∧ k1 (some q.2) = pure a ∧ KwChainT D rest pv r l (k2 a >>= k3)
theorem KwChainT.run {K : Fr} {M : Model} {A : Around} {E : Value → Shared → Prop} {s : Shared} {D : Addr} {rest : List Value} {pv : Str} {r : List (Str × Value)} {Q : List (Str × Value) → Shared → Prop} (X : K.In s.heap)
    (h : wpAny M A (newTuple rest >>= fun tv => pure (r ++ [(pv, tv)])) Q E s) : ∀ {l : List (Str × Value)} {t : Sem (List (Str × Value))}, (∀ q ∈ l, PySem.W.nsIn K D q.1 = some (some q.2)) → KwChainT D rest pv r l t → wpAny M A t Q E s
  | [], t, _, e => by rw [show t = _ from e]; exact h
  | q :: l, t, hl, e => by
    obtain ⟨β, γ, k1, k2, k3, a, e1, e2, e3⟩ := e
    have l1 : PySem.W.Looks M s.heap (nsGet D q.1 >>= k1) a := (PySem.W.looks_nsIn X (hl q (List.mem_cons_self ..))).andThen (PySem.W.Looks.of_pure e2)
    rw [e1, bind_assoc]
    exact wpAny_bind (l1.here (KwChainT.run X h (fun p hp => hl p (List.mem_cons_of_mem _ hp)) e3))
/-- what the body of a def with a star parameter is given -/
def starG (frz : Bool) (N : Nat) (b : SX) (aD rD : List DV → List DV) : Gn := fun ds μ => match dats (rD ds) with
  | some es => if es.length ≤ LIM ∧ blT es = false then fnG frz N b (aD ds ++ [.d (.tup es)]) μ else .stuck
  | none => .stuck
/-- the arrangement: aD the parameters but the star's, rD what is left over -/
structure ArrS (K : Fr) (n m l : Nat) (aD rD : List DV → List DV) (aV rV : List V → List V → List V) : Prop where
  a : ∀ (F : Hp) (α : List Addr) (ds : List DV) (vs zs : List V), vs.length = n → zs.length = m → RepVs K F α ds (vs ++ zs) → RepVs K F α (aD ds) (aV vs zs) ∧ (aV vs zs).length = l
  r : ∀ (F : Hp) (α : List Addr) (ds : List DV) (vs zs : List V), vs.length = n → zs.length = m → RepVs K F α ds (vs ++ zs) → RepVs K F α (rD ds) (rV vs zs)
section
variable {P : Program} {w : World} {K : Fr} {mg : Str → Option Value} {base : Heap} {k n : Nat} {N ps ks : List Str} {name qual pv : Str} {params : Arguments} {body : List Stmt} {scope : Scope} {kws : List (Str × V)} {f : Addr} {fd : FuncData} {b : SX}
theorem CD.star (frz : Bool) (ms : List (Str × V)) {aD rD : List DV → List DV} (aG rG : {β : Type} → List β → List β → List β → List β) (F : FunD K name qual params body scope [] kws f fd) (S : FnScope N (ps ++ [pv]) scope) (hbody : BodyOk P w K mg base k N qual scope f body b) (hk : kws ≠ []) (hms : ∀ q ∈ ms, q ∈ kws)
    (hA : ArrS K n ks.length ps.length aD rD (fun vs zs => aG vs (ms.map (·.2)) zs) (fun vs zs => rG vs (ms.map (·.2)) zs))
    (hrel : ∀ {vs mz zs : List V} {us mv ws : List Value}, vs.length = n → mz.length = ms.length → zs.length = ks.length → Vals vs us → Vals mz mv → Vals zs ws → Vals (aG vs mz zs) (aG us mv ws) ∧ Vals (rG vs mz zs) (rG us mv ws))
    (hb : ∀ (D : Addr) (doc pm : Value) (an : Option Addr) (cdv ct : Value) (us mv ws : List Value), us.length = n → mv.length = ms.length → ws.length = ks.length →
      KwChainT D (rG us mv ws) pv (ps.zip (aG us mv ws)) ((ms.map (·.1)).zip mv) (bindArgs (PySem.W.fnOf name qual params body scope .none (.ref D) doc pm an cdv ct) ⟨us, ks.zip ws⟩)) :
    CD P w K mg base (k + 1) (.ref f) n ks (starG frz N.length b aD rD) := by
  intro A outer s H us ws vs zs Q E F0 α μ ds hr e0 rv rz l1 l2 m r o
  obtain ⟨oc, od, dV, kV, doc, pm, an, cdv, ct, osl, rfl, lk, hcd, hD, hK⟩ := F.ex
  rcases hD with ⟨_, rfl⟩ | ⟨e, _⟩
  · rcases hK with e | ⟨D, rfl, hq⟩
    · exact absurd e hk
    · obtain ⟨mv, hl, rk, hks⟩ := kwd_vals (ms := ms) fun q hm => hq q (hms q hm)
      have KX : K.In s.heap := e0.mod.kin.keeps fun b o e => (e0.bs b o e).1
      obtain ⟨a1, a2⟩ := hA.a F0 α ds vs zs l1 l2 r
      have r1 := hA.r F0 α ds vs zs l1 l2 r
      obtain ⟨va, vr⟩ := hrel l1 (List.length_map ..) l2 rv rk rz
      unfold starG at o
      cases q : dats (rD ds) with
      | none => rw [q] at o; exact o.elim
      | some es =>
        rw [q] at o
        by_cases hz : es.length ≤ LIM ∧ blT es = false
        · simp only [if_pos hz] at o
          obtain ⟨hz, hbl⟩ := hz
          have rr := reps_of r1 q
          have hn : H s.heap.objs.size = none := e0.hok.fresh (Nat.le_refl _)
          have hzl : (rG us mv ws).length ≤ sizeLine := by rw [← vr.length, ← rr.length]; exact lim_line hz
          have hal : (aG us mv ws).length = ps.length := by rw [← va.length]; exact a2
          refine StX.run_bnd lk hcd S hr.r e0 (G := fun xs H2 => ∃ p, H p = none ∧ xs = aG vs (ms.map (·.2)) zs ++ [V.ref p] ∧ H2 = upd H p (.tup (rG vs (ms.map (·.2)) zs))) (fun A' Ex Q' h => ?_) fun s2 H2 xs ⟨p, hp, ex, eH⟩ hr' => ?_
          · refine KwChainT.run KX ?_ hks (hb D doc pm an cdv ct us mv ws (rv.length.symm.trans l1) hl (rz.length.symm.trans l2))
            refine wpAny_bind (wpAny_newTuple (wpAny_pure ?_) hzl)
            have new : ObjOk P w (upd H s.heap.objs.size (.tup (rG vs (ms.map (·.2)) zs))) (s.heap.push ({ cls := .type "tuple", data := .seq (rG us mv ws).toArray } : Obj)) s.heap.objs.size (.tup (rG vs (ms.map (·.2)) zs)) :=
              ⟨by rw [vr.length]; exact hzl, rG us mv ws, vr, ⟨_, Heap.get?_push_size _ rfl, rfl, _, rfl⟩⟩
            have un := StX.un_laid (fs := frs outer) (s := s) (o := ({ cls := .type "tuple", data := .seq (rG us mv ws).toArray } : Obj)) (u := .tup (rG vs (ms.map (·.2)) zs)) hn
            have z := h _ _ (aG vs (ms.map (·.2)) zs ++ [V.ref s.heap.objs.size]) (aG us mv ws ++ [Value.ref s.heap.objs.size]) (StX.env0_laid e0 new) un rfl (fun e s' => StX.cxUp outer s H _ _ E e s' un (fun b o q => Heap.get?_push_of_some _ q) rfl) (va.append (.cons rfl .nil))
              (by rw [List.length_append, List.length_append, a2] <;> rfl) ⟨_, hn, rfl, rfl⟩
            rw [List.zip_append hal.symm] at z
            exact z
          · subst ex eH
            obtain ⟨m2, g2⟩ := m.laid (o := .tup (rG vs (ms.map (·.2)) zs)) hp
            have r3 : RepVs K (upd F0 p (.tup (rG vs (ms.map (·.2)) zs))) α (aD ds ++ [.d (.tup es)]) (aG vs (ms.map (·.2)) zs ++ [V.ref p]) :=
              repVs_app (a1.grow g2) ⟨_, _, rfl, ⟨hz, p, _, rfl, ⟨.inl (.inl upd_same), fun q => by rw [hbl] at q; cases q⟩, rr.le g2.f⟩, rfl⟩
            have hb2 := hbody cdv A outer s2 (upd H p (.tup (rG vs (ms.map (·.2)) zs))) E (hr.deeper _)
            exact ⟨_, hb2.pss, _, α, _, μ, m2, slots0 r3, fin_ok (frz := frz) m2 (OutOk.grow g2 o)⟩
        · simp only [if_neg hz] at o; exact o.elim
  · exact absurd rfl e
end
theorem repVs_inv {K : Fr} {F : Hp} {α : List Addr} {ds : List DV} {x : V} {xs : List V} (r : RepVs K F α ds (x :: xs)) : ∃ d t, ds = d :: t ∧ RepV K F α d x ∧ RepVs K F α t xs := by
  cases ds with
  | nil => cases (show _ :: _ = [] from r)
  | cons d t =>
    obtain ⟨y, ys, e, r1, r2⟩ := r
    cases e
    exact ⟨d, t, rfl, r1, r2⟩
theorem repVs_nil {K : Fr} {F : Hp} {α : List Addr} {ds : List DV} (r : RepVs K F α ds []) : ds = [] := by
  cases ds with
  | nil => rfl
  | cons d t => obtain ⟨y, ys, e, _⟩ := r; cases e
theorem vals_inv {x : V} {xs : List V} {us : List Value} (r : Vals (x :: xs) us) : ∃ u t, us = u :: t ∧ RelV x u ∧ Vals xs t := by
  cases r with
  | cons a b => exact ⟨_, _, rfl, a, b⟩
theorem vals_nil {us : List Value} (r : Vals [] us) : us = [] := by cases r; rfl
def eCallV (i c n : Nat) (g : Gn) (as : EXs) : EX := fun ρ μ => match ρ[i]? with
  | some (some (.d (.cls c'))) => if c' = c then eCall n g as ρ μ else .stuck
  | _ => .stuck
section
variable {X : Cx} {W : WX} {p pos apos : Pos} {e : Expr} {es : List Expr} {xs : EXs} {n : Nat} {g : Gn}
theorem de_callV (i c : Nat) {y : Str} (C : CallX X W (.ref (He.ga X.K (clsNm c))) n [] g) (hk : PySem.W.keepIn X.K (.ref (He.ga X.K (clsNm c))) = true) (ha : DA X W (e :: es) xs) (hN : X.N[i]? = some y := by rfl) (hv : Vis X.env.scope y := by first | exact Or.inl rfl | exact Or.inr (Or.inl rfl) | exact Or.inr (Or.inr rfl))
    (hdb : (y == ("__debug__" : Str)) = false := by decide) (hcd : (y == ("__classdict__" : Str)) = false := by decide) (he : starEach (e :: es) X.env = (false, eval e X.env) :: starEach es X.env := by rfl) (hpl : (backTo pos (starEach es X.env)).any (·.1) = false := by rfl) :
    DE X W (.Call (.Name y p) (e :: es) [] pos) (eCallV i c n g xs) := by
  refine ⟨⟨fun pins s σ H Q I h => ?_⟩⟩
  obtain ⟨F, α, ρ, μ, m, sl, o⟩ := h
  unfold eCallV at o
  split at o
  · rename_i c' hρ
    split at o
    · rename_i hc
      subst hc
      obtain ⟨u, hu, ru⟩ := sl.2 i _ hρ
      cases (show u = V.ref (He.ga X.K (clsNm c')) from ru)
      have hv2 : PE X (.Name y p) (tVar i) := pe_var hN hv hdb hcd
      refine wpAny_Call_Name_kw (thn (hv2.run pins s σ H (fun x H1 => x = V.ref (He.ga X.K (clsNm c')) ∧ H1 = H) I ⟨_, hu, rfl, rfl⟩) fun fv s1 ⟨x, H1, I1, rx, ex, eH⟩ => ?_)
      subst ex eH
      obtain rfl : fv = Value.ref (He.ga X.K (clsNm c')) := rx
      refine PySem.W.callWith_K (h₀ := X.base) I1.ok.mod.kin hk (thn (ha.pa.run pos pins s1 σ H1 _ I1 (to_tCx (tX_mk m sl o))) fun us s2 ⟨vs, H2, I2, r, q⟩ => ⟨I2.kIn, ?_⟩) he hpl
      exact run_cx C I2 r q
    · exact o.elim
  · exact o.elim
/-- C.m(), m a classmethod of the class c: g on the class alone -/
theorem de_cmeth0 {pl : Sem Bool} (c : Nat) {y mm : Str} {mc : Value} {q gf : Addr} {k : Nat} (hg : Gl X y) (hm : X.mg y = some (.ref (He.ga X.K (clsNm c)))) (r : ClX.CRead X.K (He.ga X.K (clsNm c)) mc) (cm : ClX.CMet X.K (He.ga X.K (clsNm c)) mc mm q gf)
    (C : CD X.prog X.w X.K X.mg X.base k (.ref gf) 1 [] g) (hr : RoomG k X.A) (tk : Takes X W) (hdb : (y == ("__debug__" : Str)) = false := by decide)
    (ht : eval (.Call (.Attribute (.Name y p) mm apos) [] [] pos) X.env = (do
      let ov ← eval (.Name y p) X.env
      standAt apos.atName
      let (f, first) ← holding [ov] (getMethod ov mm pl)
      callWith pos f first (backTo pos (starEach [] X.env)) (backToKw pos (keywordEach [] X.env))) := by rfl) :
    DE X W (.Call (.Attribute (.Name y p) mm apos) [] [] pos) (fun _ μ => g [.d (.cls c)] μ) := by
  refine ⟨⟨fun pins s σ H Q I h => ?_⟩⟩
  obtain ⟨F, α, ρ, μ, m, sl, o⟩ := h
  refine PySem.W.methodCall_KW (pl := pl) (ld_glob I hg hm ?_ hdb) ht
  refine ClX.getmethcm_ok I r cm fun s2 I2 => ?_
  have hq := ClX.pin_at I2
  refine PySem.W.callWith_M0 (K := X.K) (first := []) ⟨hq, I2.kIn⟩ cm.fi ?_
  have z : wpAny (model X.prog X.w) X.A (call (.ref s.heap.objs.size) []) (EP X ((s.heap.objs.size, PySem.W.methodObj (.ref gf) (.ref (He.ga X.K (clsNm c)))) :: pins) σ Q) X.xe s2 := by
    refine wpAny_call (PySem.W.method_call hq (codeAny_mono (C X.A X.stack s2 H [.ref (He.ga X.K (clsNm c))] [] [.ref (He.ga X.K (clsNm c))] [] Q (fun cls dx H' => W cls dx σ H') F α μ [.d (.cls c)] hr I2.env0 (.cons rfl .nil) .nil rfl rfl m ⟨_, _, rfl, rfl, rfl⟩ o) fun r s' hq => ?_))
    cases r with
    | error e => exact tk e s' (XE.of_call I2 (fun _ _ _ h => h) hq)
    | ok fl =>
      cases fl with
      | ret u => exact I2.after hq
      | next => exact False.elim hq
      | brk => exact False.elim hq
      | cont => exact False.elim hq
  exact thn z fun _ _ y => ClX.unpinE y
end
end DL
set_option Elab.async false
set_option linter.all false
set_option maxRecDepth 100000
set_option maxHeartbeats 4000000
namespace DL
open PySem PySem.Spec PyProof.Rows L2
structure DefR where
  ad : Fr → Addr
  name : Str
  qual : Str
  params : Arguments
  body : List Stmt
  scope : Scope
  dfl : List He.Dv := []
  kwd : List (Str × He.Dv) := []
def DefR.dvs (K : Fr) (d : DefR) : List V := d.dfl.map (He.Dv.v K)
def DefR.kws (K : Fr) (d : DefR) : List (Str × V) := d.kwd.map fun q => (q.1, q.2.v K)
def DefR.obs (K : Fr) (d : DefR) : He.FnW := match K.lookup (d.ad K) with
  | some ⟨_, _, .func fd, _⟩ => some (fd.name, fd.qualname, fd.params, fd.body, fd.scope, fd.globals, fd.closure, fd.builtins)
  | _ => none
def DefR.val (d : DefR) : He.FnW := some (d.name, d.qual, d.params, .stmts d.body, d.scope, mainGlobals, [], builtinsNs)
def DefR.ok (K : Fr) (d : DefR) : Bool := PySem.W.keepIn K (.ref (d.ad K)) && (match K.lookup (d.ad K) with
  | some ⟨_, _, .func fd, _⟩ => PySem.W.codeIn K fd.code d.qual && (He.dflB K fd.defaults (d.dvs K) && He.kwdB K fd.kwdefaults (d.kws K))
  | _ => false)
abbrev FunR (K : Fr) (d : DefR) (fd : FuncData) : Prop := FunD K d.name d.qual d.params d.body d.scope (d.dvs K) (d.kws K) (d.ad K) fd
theorem DefR.fun_ {K : Fr} {d : DefR} (e : d.obs K = d.val) (c : d.ok K = true) : ∃ fd, FunR K d fd := by
  obtain ⟨kp, c2⟩ := He.ba c
  unfold DefR.obs at e
  cases q : K.lookup (d.ad K) with
  | none => rw [q] at c2; cases c2
  | some o =>
    obtain ⟨oc, od, dt, osl⟩ := o
    rw [q] at c2 e
    cases dt with
    | func fd =>
      obtain ⟨n1, n2, n3, n4, n5, n6, n7, n8, n9, n10, n11, n12, n13, n14, n15⟩ := fd
      simp only [DefR.val, Option.some.injEq, Prod.mk.injEq] at e
      obtain ⟨h1, h2, h3, h4, h5, h6, h7, h8⟩ := e
      subst h1 h2 h3 h4 h5 h6 h7 h8
      obtain ⟨k1, k2⟩ := He.ba (show (PySem.W.codeIn K n13 d.qual && (He.dflB K n8 (d.dvs K) && He.kwdB K n9 (d.kws K))) = true from c2)
      obtain ⟨k3, k4⟩ := He.ba k2
      exact ⟨_, ⟨oc, od, n8, n9, n10, n11, n12, n13, n14, osl, rfl, q, k1, He.dflB_ok k3, He.kwdB_ok k4⟩, kp⟩
    | _ => cases c2
def obsR (n : Nat) (chk : Fr → Bool) (fn : List DefR) (K : Fr) : He.AlD := (chk K && fn.all fun d => d.ok K, fn.map fun d => d.obs K)
def valR (fn : List DefR) : He.AlD := (true, fn.map DefR.val)
def SaysR (chk : Fr → Bool) (fn : List DefR) (K : Fr) : Prop := obsR 0 chk fn K = valR fn
def obsRG (n : Nat) (chk : Fr → Bool) (fn : List DefR) (g : Addr → Option Obj) : He.AlD := obsR 0 chk fn (He.frG g (List.range n))
def hookR (n : Nat) (chk : Fr → Bool) (fn : List DefR) : PySem.W.Hook where
  α := He.AlD
  obs := fun s => obsRG n chk fn s.heap.get?
  val := fun _ => valR fn
  says := fun _ h => ∃ K : Fr, K.In h ∧ SaysR chk fn K
  of := fun _ _ e => ⟨_, He.frG_in, e⟩
  keeps := fun _ _ _ ⟨K, hK, c⟩ k => ⟨K, PySem.W.Frag.In.keeps hK k, c⟩
theorem obsRG_eq {n : Nat} {chk : Fr → Bool} {fn : List DefR} {g : Addr → Option Obj} {s : Shared} (h : ∀ a, g a = s.heap.get? a) : obsRG n chk fn g = (hookR n chk fn).obs s := by
  have e : g = s.heap.get? := funext h
  rw [e] <;> rfl
section
variable {chk : Fr → Bool} {fn : List DefR} {K : Fr}
theorem SaysR.test (c : SaysR chk fn K) : chk K = true := (He.ba (congrArg (fun z : He.AlD => z.1) c)).1
theorem SaysR.def_ (c : SaysR chk fn K) (i : Nat) {d : DefR} (h : fn[i]? = some d := by rfl) : ∃ fd, FunR K d fd := by
  have c2 := (He.ba (show (chk K && fn.all fun d => d.ok K) = true from congrArg (fun z : He.AlD => z.1) c)).2
  have e : fn.map (fun d => d.obs K) = fn.map DefR.val := congrArg (fun z : He.AlD => z.2) c
  have e2 : (fn.map fun d => d.obs K)[i]? = (fn.map DefR.val)[i]? := by rw [e]
  rw [List.getElem?_map, List.getElem?_map, h] at e2
  exact DefR.fun_ (Option.some.inj e2) (List.all_eq_true.mp c2 d (List.mem_of_getElem? h))
end
/-- a property's getter -/
def pgA (c f : Str) (K : Fr) : Addr := match PySem.W.recIn K (He.ma K (He.ga K c) f) "property" with
  | some (.ref g :: _) => g
  | _ => 0
def propB (K : Fr) (c f : Str) : Bool := He.eqO (PySem.W.findIn K (.ref (He.ga K c)) f) (some (some (.ref (He.ma K (He.ga K c) f)))) && (He.eqO (PySem.W.specialIn K (.ref (He.ma K (He.ga K c) f)) "__get__") (some (some (.builtin "property.__get__"))) && (decide (PySem.W.takesIn K (.ref (He.ma K (He.ga K c) f)) = some true) &&
  (match PySem.W.recIn K (He.ma K (He.ga K c) f) "property" with
  | some (.ref _ :: _) => true
  | _ => false)))
theorem propB_ok {K : Fr} {c f : Str} (h : propB K c f = true) : PropOf K (He.ga K c) f (He.ma K (He.ga K c) f) (pgA c f K) := by
  obtain ⟨h1, h⟩ := He.ba h
  obtain ⟨h2, h⟩ := He.ba h
  obtain ⟨h3, h4⟩ := He.ba h
  refine ⟨He.eqO_ok h1, He.eqO_ok h2, of_decide_eq_true h3, ?_⟩
  unfold pgA
  split at h4
  · rename_i g r q
    rw [q]
    exact ⟨r, rfl⟩
  · cases h4
/-- a classmethod's def -/
def cgA (c f : Str) (K : Fr) : Addr := match PySem.W.recIn K (He.ma K (He.ga K c) f) "classmethod" with
  | some (.ref g :: _) => g
  | _ => 0
def cmB (K : Fr) (c f : Str) : Bool := PySem.W.readsIn K (He.ga K c) (.type "type") && (He.eqO (PySem.W.specialIn K (.ref (He.ga K c)) "__getattribute__") (some (some (.builtin "type.__getattribute__"))) &&
  ((match PySem.W.findCls K (.ref (He.ga K c)) (.type "type") f with
  | some (.get (.builtin b) (.ref p) .none (.ref C)) => decide (b = "classmethod.__get__") && (decide (p = He.ma K (He.ga K c) f) && decide (C = He.ga K c))
  | _ => false) && ((match PySem.W.recIn K (He.ma K (He.ga K c) f) "classmethod" with
  | some (.ref _ :: _) => true
  | _ => false) && PySem.W.fnIn K (cgA c f K))))
theorem cmB_ok {K : Fr} {c f : Str} (h : cmB K c f = true) : ClX.CRead K (He.ga K c) (.type "type") ∧ ClX.CMet K (He.ga K c) (.type "type") f (He.ma K (He.ga K c) f) (cgA c f K) := by
  obtain ⟨h1, h⟩ := He.ba h
  obtain ⟨h2, h⟩ := He.ba h
  obtain ⟨h3, h⟩ := He.ba h
  obtain ⟨h4, h5⟩ := He.ba h
  refine ⟨⟨h1, He.eqO_ok h2⟩, ⟨?_, ?_, h5⟩⟩
  · split at h3
    · rename_i b p C q
      obtain ⟨a1, a⟩ := He.ba h3
      obtain ⟨a2, a3⟩ := He.ba a
      rw [q, of_decide_eq_true a1, of_decide_eq_true a2, of_decide_eq_true a3]
    · cases h3
  · unfold cgA
    split at h4
    · rename_i g r q
      rw [q]
      exact ⟨r, rfl⟩
    · cases h4
theorem law_run {P : Program} {w : World} {K : Fr} {mg mb : Str → Option Value} {k : Nat} {fa a : Addr} {g : Gn} {s₁ : Shared} {vs : List Value} {ns : List Int} (KX : K.In s₁.heap) (hns : s₁.heap.Ns mainGlobals mg) (hb : s₁.heap.Ns builtinsNs mb) (hbb : ∀ x : Str, x ≠ "__name__" → mb x = bootBuiltins x)
    (hlim : s₁.heap.NoLimit) (hg : s₁.gens = #[]) (ha : s₁.heap.get? a = some { cls := .type "list", data := .seq vs.toArray }) (hi : IntsAre vs ns) (hl : ns.length ≤ LIM) (hr : Room k callerA)
    (C : ∀ base : Heap, K.In base → base.Ns mainGlobals mg → CD P w K mg base k (.ref fa) 1 [] g) (hsem : ∃ μ, g [.d (.fl (ns.map .int))] [] = .ok (.d (.bl true)) μ) :
    codeAny (model P w) callerA (.call (.ref fa) ⟨[.ref a], []⟩) (fun r s' => r = .ok (.ret (.bool true)) ∧ OldK s₁.heap s'.heap ∧ s'.os = s₁.os ∧ AllBare s'.gens) s₁ := by
  have rv := vals_ints hi
  have lenV := hi.length
  have hz : ns.length ≤ sizeLine := lim_line hl
  obtain ⟨μe, he⟩ := hsem
  have core : ∀ H : Hp, Only H → SqL K H a (ns.map V.int) → HOk P w H s₁.heap → (∀ b, H b ≠ none → b = a ∧ K.lookup a = none) →
      codeAny (model P w) callerA (.call (.ref fa) ⟨[.ref a], []⟩) (fun r s' => r = .ok (.ret (.bool true)) ∧ OldK s₁.heap s'.heap ∧ s'.os = s₁.os ∧ AllBare s'.gens) s₁ := by
    intro H hO hS hok hA
    have away : ∀ {b : Addr} {o : Obj}, s₁.heap.get? b = some o → (b = a → K.lookup a = none → False) → (hidT s₁.heap H).get? b = some o := fun {b o} e n => hidT_get e (by
      cases q : H b with
      | none => rfl
      | some u => exact (n (hA b (by rw [q]; simp)).1 (hA b (by rw [q]; simp)).2).elim)
    have nsK : ∀ {b : Addr} {m : Str → Option Value}, s₁.heap.Ns b m → (hidT s₁.heap H).Ns b m := fun {b m} ⟨o, es, ep, e, d, r⟩ => ⟨o, es, ep, away e (fun z _ => by
      subst z
      rw [ha] at e; cases e
      have d' : Data.seq vs.toArray _ = Data.dict es ep := d
      cases d'), d, r⟩
    have hKb : K.In (hidT s₁.heap H) := fun b o e => away (KX b o e) fun z n => by subst z; rw [n] at e; cases e
    have hM : Mod K mg (hidT s₁.heap H) := ⟨hKb, nsK hns, ⟨mb, nsK hb, hbb⟩, let ⟨mc, h1, h2⟩ := hlim; ⟨mc, nsK h1, h2⟩⟩
    have e0 : Env0 P w K mg (hidT s₁.heap H) callerA [] s₁ H := ⟨rfl, hM, fun b o e => of_hidT e, Nat.le_of_eq (hidT_size _ _), trivial, fun b hb => absurd (show b ∈ ([] : List Addr) from hb) (by simp), hok, .of_eq hg⟩
    have m0 : Mem K H H [] [] := ⟨Le.refl H, rfl, List.nodup_nil, fun n c a h _ => by simp at h⟩
    have rr : Reps K H (ns.map Dat.int) (ns.map V.int) := reps_ints ns
    refine codeAny_mono (C _ hKb (nsK hns) callerA [] s₁ H [.ref a] [] [.ref a] [] (fun v _ => v = .bl true) E0 H [] [] [.d (.fl (ns.map .int))] ⟨hr, rfl⟩ e0 (.cons rfl .nil) .nil rfl rfl m0 ⟨_, _, rfl, ⟨by simpa using hl, a, _, rfl, hS, rr⟩, rfl⟩ (by
      rw [he]
      exact fun u F' α' H' _ _ r => r)) fun r s' h => ?_
    cases r with
    | error e =>
      obtain ⟨_, _, _, _, _, _, _, _, _, _, _, _, z⟩ := (show L2.CX P w _ _ _ E0 e s' from h)
      exact z.elim
    | ok fl =>
      cases fl with
      | next => exact False.elim h
      | brk => exact False.elim h
      | cont => exact False.elim h
      | ret u =>
        obtain ⟨v, H', os, bare, un, hok', r', q⟩ := h
        have q' : v = .bl true := q
        subst q'
        obtain rfl : u = Value.bool true := r'
        refine ⟨rfl, OldK.of_keep fun b o e => ?_, os, bare⟩
        cases q : H b with
        | none => exact un.keep b o e q (by intro z; exact absurd (show b ∈ ([] : List Addr) from z) (by simp)) (by simp)
        | some u =>
          rcases hO b with z | ⟨ob, xs, z⟩
          · rw [q] at z; cases z
          · have z2 := un.frzs b ob _ z
            obtain ⟨e1, _⟩ := hok b _ z
            obtain ⟨e2, _⟩ := hok' b _ z2
            rw [e] at e1; cases e1
            exact e2
  cases hk : K.lookup a with
  | some o =>
    have e := KX a o hk
    rw [ha] at e
    cases e
    exact core (fun _ => none) (fun _ => .inl rfl) (.inr ⟨_, vs.toArray, _, hk, rfl, rfl, rfl, by rw [List.size_toArray, lenV]; exact hz, by simpa using rv⟩) (fun b u z => by have z' : (none : Option HO) = some u := z; cases z') fun b z => absurd rfl z
  | none =>
    refine core (fun b => if b = a then some (.frz { cls := .type "list", data := .seq vs.toArray } (.lst (ns.map V.int))) else none) (fun b => ?_) (.inl (.inr ⟨{ cls := .type "list", data := .seq vs.toArray }, if_pos rfl⟩)) (fun b u z => ?_) (fun b z => ?_)
    · by_cases hb : b = a
      · exact .inr ⟨_, _, if_pos hb⟩
      · exact .inl (if_neg hb)
    · by_cases hb : b = a
      · have z' := (if_pos hb).symm.trans z
        cases z'
        subst hb
        exact ⟨ha, by rw [List.length_map]; exact hz, vs, _, rv, ha⟩
      · have z' := (if_neg hb).symm.trans z
        cases z'
    · by_cases hb : b = a
      · exact ⟨hb, hk⟩
      · exact absurd (if_neg hb) z
/-- the law, walked: F gives the written part and what the law's def computes -/
theorem walk_dl {l : PySem.W.OpenLaw} {n k : Nat} {q : Program} {loose : List Str} {XP : (Str → Option Value) → Heap → Prop} {YP : World → Heap → Prop} {d : DefRec} (hn : l.most = some n) (hn2 : n ≤ LIM) (hdf : d.params.defaults = []) (hr : Room k callerA)
    (F : ∀ (w : World) (mg : Str → Option Value) (fa : Addr) (h : Heap), YP w h → h.Ns mainGlobals mg → mg d.name = some (.ref fa) →
      ∃ (K : Fr) (g : Gn), K.In h ∧ (∀ base : Heap, K.In base → base.Ns mainGlobals mg → CD l.prog w K mg base k (.ref fa) 1 [] g) ∧ ∀ ns : List Int, ns.length ≤ n → ∃ μ, g [.d (.fl (ns.map .int))] [] = .ok (.d (.bl true)) μ) :
    PySem.W.WalkO q loose XP YP l.row.toRowW d [] (fun f vs => PySem.call f vs) := by
  refine Att.attach_call hn hdf fun w s₀ s₁ mg mb fa o pm cd doc a vs ns G Y ho hd hcd hmg hobj hints hlen hg => ?_
  obtain ⟨K, g, KX, hC, hsem⟩ := F w mg fa _ Y G.T.g hmg
  exact law_run KX G.T.g G.T.b G.T.builtins G.T.nolimit hg hobj hints (Nat.le_trans hlen hn2) hr hC (hsem ns hlen)
end DL
set_option Elab.async false
set_option linter.all false
set_option maxRecDepth 100000
set_option maxHeartbeats 4000000
namespace DL
open PySem PySem.Spec PyProof.Rows L2
theorem cutM_self (μ : List Cel) : cutM μ.length μ = μ := by
  unfold cutM
  split
  · exact List.take_length
  · rfl
def Clo (μ : List Cel) : Prop := μ.all (celLt μ.length) = true
theorem refsLt_le {n m : Nat} (h : n ≤ m) : ∀ fs : List (Nat × DV), refsLt n fs = true → refsLt m fs = true
  | [], _ => rfl
  | (_, .d _) :: r, e => by simpa [refsLt] using refsLt_le h r (by simpa [refsLt] using e)
  | (_, .c j) :: r, e => by
    have e' : j < n ∧ refsLt n r = true := by simpa [refsLt] using e
    simp [refsLt, Nat.lt_of_lt_of_le e'.1 h, refsLt_le h r e'.2]
theorem celLt_le {n m : Nat} (h : n ≤ m) : ∀ c : Cel, celLt n c = true → celLt m c = true
  | .lst _, _ => rfl
  | .dead, _ => rfl
  | .ins _ fs, e => refsLt_le h fs e
  | .lv ds, e => List.all_eq_true.mpr fun d hd => by
    have := List.all_eq_true.mp e d hd
    cases d with
    | d _ => rfl
    | c j => exact decide_eq_true (Nat.lt_of_lt_of_le (of_decide_eq_true this) h)
theorem Clo.app {μ : List Cel} (h : Clo μ) (ds : List Dat) : Clo (μ ++ [.lst ds]) := by
  unfold Clo at h ⊢
  rw [List.all_append, Bool.and_eq_true]
  refine ⟨List.all_eq_true.mpr fun c hc => celLt_le (by simp) c (List.all_eq_true.mp h c hc), rfl⟩
theorem Clo.set {μ : List Cel} (h : Clo μ) (n : Nat) (ds : List Dat) : Clo (μ.set n (.lst ds)) := by
  unfold Clo at h ⊢
  rw [List.length_set]
  refine List.all_eq_true.mpr fun c hc => ?_
  rcases List.mem_or_eq_of_mem_set hc with hc | rfl
  · exact List.all_eq_true.mp h c hc
  · rfl
theorem clo_nil : Clo [] := rfl
theorem cutM_app {μ : List Cel} (h : Clo μ) (x : List Cel) : cutM μ.length (μ ++ x) = μ := by
  unfold cutM Clo at *
  rw [List.take_left' rfl, if_pos h]
theorem cutM_of {μ μ' : List Cel} (h : μ'.length = μ.length) : cutM μ.length μ' = μ' := by
  rw [← h]; exact cutM_self μ'
theorem get_last (μ : List Cel) (c : Cel) : (μ ++ [c])[μ.length]? = some c := by simp
theorem set_last (μ : List Cel) (c c' : Cel) : (μ ++ [c]).set μ.length c' = μ ++ [c'] := by simp
/-- a comprehension without effects -/
theorem eLc_pure {own : List Nat} {it : IX} {g : GX} {t : TX} {e : EX} {ρ : Rho} {μ : List Cel} {ds : List Dat} (hc : Clo μ) (hit : it ρ μ = .ok ds μ) (hl : ds.length ≤ LIM) (f : Dat → Option Dat)
    (h : ∀ d ∈ ds, ∀ acc, ∃ ρ1 μx, g (.d d) (wipeR ρ own) (μ ++ [.lst acc]) = .nx ρ1 μx ∧ (match f d with
      | none => t ρ1 (μ ++ [.lst acc]) = .ok false (μ ++ [.lst acc])
      | some v => t ρ1 (μ ++ [.lst acc]) = .ok true (μ ++ [.lst acc]) ∧ e ρ1 (μ ++ [.lst acc]) = .ok (.d v) (μ ++ [.lst acc]))) :
    eLc own it g t e ρ μ = .ok (.d (.lst (ds.filterMap f))) μ := by
  have key : ∀ (l : List Dat) (acc : List Dat), (∀ d ∈ l, d ∈ ds) → acc.length + l.length ≤ LIM → compL μ.length (wipeR ρ own) g t e l (μ ++ [.lst acc]) = .ok () (μ ++ [.lst (acc ++ l.filterMap f)]) := by
    intro l
    induction l with
    | nil => intro acc _ _; simp [compL]
    | cons d l ih =>
      intro acc hm hz
      obtain ⟨ρ1, μx, h1, h2⟩ := h d (hm d (by simp)) acc
      unfold compL
      rw [h1]
      cases q : f d with
      | none =>
        rw [q] at h2
        simp only [h2]
        rw [ih acc (fun d' hd => hm d' (by simp [hd])) (by simp at hz; omega)]
        simp [q]
      | some v =>
        rw [q] at h2
        simp only [h2.1, h2.2, get_last, set_last]
        have hz' : acc.length < LIM := by
          simp only [List.length_cons] at hz
          exact Nat.lt_of_lt_of_le (Nat.lt_add_of_pos_right (Nat.succ_pos _)) hz
        rw [if_pos hz', ih (acc ++ [v]) (fun d' hd => hm d' (by simp [hd])) (by simp at hz ⊢; omega)]
        simp [q]
  unfold eLc
  rw [hit, bind_ok, key ds [] (fun _ h => h) (by simpa using hl)]
  unfold compE
  simp only [List.nil_append, get_last, set_last, cutM_app hc]
/-- .. whose every item goes in -/
theorem eLc_map {own : List Nat} {it : IX} {g : GX} {e : EX} {ρ : Rho} {μ : List Cel} {ds : List Dat} (hc : Clo μ) (hit : it ρ μ = .ok ds μ) (hl : ds.length ≤ LIM) (f : Dat → Dat)
    (h : ∀ d ∈ ds, ∀ acc, ∃ ρ1 μx, g (.d d) (wipeR ρ own) (μ ++ [.lst acc]) = .nx ρ1 μx ∧ e ρ1 (μ ++ [.lst acc]) = .ok (.d (f d)) (μ ++ [.lst acc])) :
    eLc own it g tTrue e ρ μ = .ok (.d (.lst (ds.map f))) μ := by
  rw [eLc_pure hc hit hl (fun d => some (f d)) fun d hd acc => ?_]
  · simp
  · obtain ⟨ρ1, μx, h1, h2⟩ := h d hd acc
    exact ⟨ρ1, μx, h1, rfl, h2⟩
/-- chained comparisons of ints -/
theorem eChain_ii {xa xb xc : EX} {ρ : Rho} {μ : List Cel} {a b c : Int} (h1 : xa ρ μ = .ok (.d (.int a)) μ) (h2 : xb ρ μ = .ok (.d (.int b)) μ) (h3 : xc ρ μ = .ok (.d (.int c)) μ) : eChain leD leD xa xb xc ρ μ = .ok (.d (.bl (decide (a ≤ b) && decide (b ≤ c)))) μ := by
  unfold eChain
  rw [h1, bind_ok, h2, bind_ok]
  by_cases h : a ≤ b
  · simp [leD, okD, h, h3]
  · simp [leD, okD, h]
/-- and, or of bools in a test -/
theorem tAnd_b {a b : TX} {ρ : Rho} {μ : List Cel} {x y : Bool} (h1 : a ρ μ = .ok x μ) (h2 : x = true → b ρ μ = .ok y μ) : tAndX a b ρ μ = .ok (x && y) μ := by
  unfold tAndX
  rw [h1, bind_ok]
  cases x with
  | true => simpa using h2 rfl
  | false => rfl
theorem tOr_b {a b : TX} {ρ : Rho} {μ : List Cel} {x y : Bool} (h1 : a ρ μ = .ok x μ) (h2 : x = false → b ρ μ = .ok y μ) : tOrX a b ρ μ = .ok (x || y) μ := by
  unfold tOrX
  rw [h1, bind_ok]
  cases x with
  | true => rfl
  | false => simpa using h2 rfl
theorem eAnd_b {a b : EX} {ρ : Rho} {μ : List Cel} {x y : Bool} (h1 : a ρ μ = .ok (.d (.bl x)) μ) (h2 : x = true → b ρ μ = .ok (.d (.bl y)) μ) : eAnd a b ρ μ = .ok (.d (.bl (x && y))) μ := by
  unfold eAnd
  rw [h1, bind_ok]
  cases x with
  | true => simpa [truD] using h2 rfl
  | false => rfl
theorem eOr_b {a b : EX} {ρ : Rho} {μ : List Cel} {x y : Bool} (h1 : a ρ μ = .ok (.d (.bl x)) μ) (h2 : x = false → b ρ μ = .ok (.d (.bl y)) μ) : eOr a b ρ μ = .ok (.d (.bl (x || y))) μ := by
  unfold eOr
  rw [h1, bind_ok]
  cases x with
  | true => rfl
  | false => simpa [truD] using h2 rfl
section
variable {e : EX} {c : TX} {a b d : SX} {ρ ρ' : Rho} {μ μ' : List Cel} {v : DV} {i : Nat} {g : GX}
theorem st_set (h : e ρ μ = .ok v μ') : sSeq (sAsg e (gN i)) b ρ μ = b (ρ.set i (some v)) μ' := by simp [sSeq, sAsg, gN, h]
theorem st_asg (h : e ρ μ = .ok v μ') (h2 : g v ρ μ' = .nx ρ' μ2) : sSeq (sAsg e g) b ρ μ = b ρ' μ2 := by simp [sSeq, sAsg, h, h2]
theorem st_ret (h : e ρ μ = .ok v μ') : sSeq (sRet e) b ρ μ = .rt v μ' := by simp [sSeq, sRet, h]
theorem st_do (h : e ρ μ = .ok v μ') : sSeq (sDo e) b ρ μ = b ρ μ' := by simp [sSeq, sDo, h]
theorem st_iff (h : c ρ μ = .ok false μ') : sSeq (sIf c a sSkip) b ρ μ = b ρ μ' := by simp [sSeq, sIf, sSkip, h]
theorem st_if1 (h : c ρ μ = .ok true μ') : sSeq (sIf c a d) b ρ μ = (a ρ μ').bind b := by simp [sSeq, sIf, h]
theorem st_nx (h : a ρ μ = .nx ρ' μ') : sSeq a b ρ μ = b ρ' μ' := by simp [sSeq, h]
theorem st_skip : sSkip ρ μ = .nx ρ μ := rfl
theorem fn_rt {frz : Bool} {N : Nat} {b : SX} {ds : List DV} {x : Dat} (h : b (rho0 N ds) μ = .rt (.d x) μ') : fnG frz N b ds μ = .ok (.d x) (cutM μ.length μ') := by
  unfold fnG
  rw [h]
  rfl
theorem fn_rt0 {frz : Bool} {N : Nat} {b : SX} {ds : List DV} {x : Dat} (h : b (rho0 N ds) μ = .rt (.d x) μ) : fnG frz N b ds μ = .ok (.d x) μ := by
  rw [fn_rt h, cutM_self]
end
section
variable {a b c : EX} {ρ : Rho} {μ μ1 μ2 μ3 : List Cel} {x y z : DV} {r : Out DV}
theorem e1_ok {g : G1} (h1 : a ρ μ = .ok x μ1) (h : g x μ1 = r) : e1 g a ρ μ = r := by unfold e1; rw [h1]; exact h
theorem e2_ok {g : G2} (h1 : a ρ μ = .ok x μ1) (h2 : b ρ μ1 = .ok y μ2) (h : g x y μ2 = r) : e2 g a b ρ μ = r := by unfold e2; rw [h1, bind_ok, h2]; exact h
theorem eN1_ok {g : Gn} (h1 : a ρ μ = .ok x μ1) (h : g [x] μ1 = r) : eN g (as1 a as0) ρ μ = r := by unfold eN as1 as0; rw [h1]; exact h
theorem eN2_ok {g : Gn} (h1 : a ρ μ = .ok x μ1) (h2 : b ρ μ1 = .ok y μ2) (h : g [x, y] μ2 = r) : eN g (as1 a (as1 b as0)) ρ μ = r := by unfold eN as1 as0; rw [h1, bind_ok, h2]; exact h
theorem eN3_ok {g : Gn} (h1 : a ρ μ = .ok x μ1) (h2 : b ρ μ1 = .ok y μ2) (h3 : c ρ μ2 = .ok z μ3) (h : g [x, y, z] μ3 = r) : eN g (as1 a (as1 b (as1 c as0))) ρ μ = r := by unfold eN as1 as0; rw [h1, bind_ok, h2, bind_ok, h3]; exact h
theorem eC1_ok {g : Gn} (h1 : a ρ μ = .ok x μ1) (h : g [x] μ1 = r) : eCall 1 g (as1 a as0) ρ μ = r := by unfold eCall as1 as0; rw [h1]; exact h
theorem eC2_ok {g : Gn} (h1 : a ρ μ = .ok x μ1) (h2 : b ρ μ1 = .ok y μ2) (h : g [x, y] μ2 = r) : eCall 2 g (as1 a (as1 b as0)) ρ μ = r := by unfold eCall as1 as0; rw [h1, bind_ok, h2]; exact h
theorem eC3_ok {g : Gn} (h1 : a ρ μ = .ok x μ1) (h2 : b ρ μ1 = .ok y μ2) (h3 : c ρ μ2 = .ok z μ3) (h : g [x, y, z] μ3 = r) : eCall 3 g (as1 a (as1 b (as1 c as0))) ρ μ = r := by unfold eCall as1 as0; rw [h1, bind_ok, h2, bind_ok, h3]; exact h
theorem eV_ok {i : Nat} (h : ρ[i]? = some (some x)) : eV i ρ μ = .ok x μ := by unfold eV; rw [h]
theorem eK_ok {v : Dat} : eK v ρ μ = .ok (.d v) μ := rfl
theorem tB_ok {v : Bool} (h : a ρ μ = .ok (.d (.bl v)) μ1) : tBool a ρ μ = .ok v μ1 := by unfold tBool; rw [h]; rfl
theorem tT_ok {v : Bool} (h : a ρ μ = .ok (.d (.bl v)) μ1) : tTru a ρ μ = .ok v μ1 := by unfold tTru; rw [h]; rfl
theorem tN_ok {t : TX} {v : Bool} (h : t ρ μ = .ok v μ1) : tNotX t ρ μ = .ok (!v) μ1 := by unfold tNotX; rw [h]; rfl
theorem eIf1 {t : TX} (h : t ρ μ = .ok true μ1) (h2 : a ρ μ1 = r) : eIf t a b ρ μ = r := by unfold eIf; rw [h]; exact h2
theorem eIf0 {t : TX} (h : t ρ μ = .ok false μ1) (h2 : b ρ μ1 = r) : eIf t a b ρ μ = r := by unfold eIf; rw [h]; exact h2
theorem addL {ds es : List Dat} (h : ds.length + es.length ≤ LIM) : addD (.d (.lst ds)) (.d (.lst es)) μ = .ok (.d (.lst (ds ++ es))) μ := by simp only [addD, if_pos h, okD]
theorem sortS {ns : List Int} (h : ns.length < 1000 ∧ (sSet ns).length < 64) (ds : List Dat) (h2 : intsD ds = some ns) : sortSetD (.d (.lst ds)) μ = .ok (.d (.lst (intsDat (sSet ns)))) μ := by
  unfold sortSetD seqsT seqs
  simp only [Option.bind_some, h2]
  rw [if_pos h]
  rfl
end
end DL
set_option Elab.async false
set_option linter.all false
set_option maxRecDepth 100000
set_option maxHeartbeats 4000000
namespace DL
@[simp] theorem blT_nil : blT [] = false := rfl
@[simp] theorem blT_int {i : Int} {l : List Dat} : blT (.int i :: l) = false := rfl
@[simp] theorem blT_non {l : List Dat} : blT (.non :: l) = false := rfl
@[simp] theorem blT_str {s : List Nat} {l : List Dat} : blT (.str s :: l) = false := rfl
@[simp] theorem blT_tup {s l : List Dat} : blT (.tup s :: l) = false := rfl
@[simp] theorem blT_lst {s l : List Dat} : blT (.lst s :: l) = false := rfl
@[simp] theorem blT_ins {c : Nat} {fs : List (Nat × Dat)} {l : List Dat} : blT (.ins c fs :: l) = false := rfl
@[simp] theorem blT_bl {b : Bool} {l : List Dat} : blT (.bl b :: l) = l.all isBl := by simp [blT, isBl]
@[simp] theorem isBl_bl {b : Bool} : isBl (.bl b) = true := rfl
@[simp] theorem isBl_int {i : Int} : isBl (.int i) = false := rfl
@[simp] theorem isBl_tup {l : List Dat} : isBl (.tup l) = false := rfl
open PySem PySem.Spec PyProof.Rows L2
def WE {τ : Type} (o : Out τ) (Q : τ → List Cel → Prop) (X : Exn → List Cel → Prop) : Prop := match o with
  | .ok v μ => Q v μ
  | .raise e μ => X e μ
  | .stuck => False
def WS (o : SOut) (N : Rho → List Cel → Prop) (R : DV → List Cel → Prop) (X : Exn → Rho → List Cel → Prop) : Prop := match o with
  | .nx ρ μ => N ρ μ
  | .rt v μ => R v μ
  | .raise e ρ μ => X e ρ μ
  | .stuck => False
abbrev X0 : Exn → List Cel → Prop := fun _ _ => False
abbrev XS : Exn → Rho → List Cel → Prop := fun _ _ _ => False
section
variable {τ υ : Type} {Q Q' : τ → List Cel → Prop} {X X' : Exn → List Cel → Prop} {o : Out τ}
@[simp] theorem we_ok (v : τ) (μ : List Cel) : WE (.ok v μ) Q X = Q v μ := rfl
@[simp] theorem we_raise (e : Exn) (μ : List Cel) : WE (.raise e μ) Q X = X e μ := rfl
@[simp] theorem we_stuck : WE (.stuck) Q X = False := rfl
@[simp] theorem we_okD (v : Dat) (μ : List Cel) {Q : DV → List Cel → Prop} : WE (okD v μ) Q X = Q (.d v) μ := rfl
theorem WE.mono (h : WE o Q X) (hq : ∀ v μ, Q v μ → Q' v μ) (hx : ∀ e μ, X e μ → X' e μ) : WE o Q' X' := by
  cases o with
  | ok v μ => exact hq _ _ h
  | raise e μ => exact hx _ _ h
  | stuck => exact h
theorem WE.imp (h : WE o Q X) (hq : ∀ v μ, Q v μ → Q' v μ) : WE o Q' X := h.mono hq fun _ _ h => h
theorem we_bind {f : τ → List Cel → Out υ} {Q : υ → List Cel → Prop} : WE (o.bind f) Q X = WE o (fun v μ => WE (f v μ) Q X) X := by cases o <;> rfl
/-- from a reading's equation -/
theorem WE.of_eq {v : τ} {μ : List Cel} (h : o = .ok v μ) (q : Q v μ) : WE o Q X := by rw [h]; exact q
theorem WE.eq {v : τ} {μ : List Cel} (h : WE o (fun v' μ' => v' = v ∧ μ' = μ) X0) : o = .ok v μ := by
  cases o with
  | ok v' μ' => obtain ⟨rfl, rfl⟩ := h; rfl
  | raise e μ => exact h.elim
  | stuck => exact h.elim
theorem WE.ex (h : WE o Q X0) : ∃ v μ, o = .ok v μ ∧ Q v μ := by
  cases o with
  | ok v' μ' => exact ⟨_, _, rfl, h⟩
  | raise e μ => exact h.elim
  | stuck => exact h.elim
end
section
variable {N N' : Rho → List Cel → Prop} {R R' : DV → List Cel → Prop} {X : Exn → Rho → List Cel → Prop} {o : SOut} {τ : Type}
@[simp] theorem ws_nx (ρ : Rho) (μ : List Cel) : WS (.nx ρ μ) N R X = N ρ μ := rfl
@[simp] theorem ws_rt (v : DV) (μ : List Cel) : WS (.rt v μ) N R X = R v μ := rfl
@[simp] theorem ws_raise (e : Exn) (ρ : Rho) (μ : List Cel) : WS (.raise e ρ μ) N R X = X e ρ μ := rfl
@[simp] theorem ws_stuck : WS (.stuck) N R X = False := rfl
theorem ws_bind {f : Rho → List Cel → SOut} : WS (o.bind f) N R X = WS o (fun ρ μ => WS (f ρ μ) N R X) R X := by cases o <;> rfl
theorem ws_sbind {o : Out τ} {ρ : Rho} {f : τ → List Cel → SOut} : WS (o.sbind ρ f) N R X = WE o (fun v μ => WS (f v μ) N R X) (fun e μ => X e ρ μ) := by cases o <;> rfl
theorem WS.mono (h : WS o N R X) (hn : ∀ ρ μ, N ρ μ → N' ρ μ) (hr : ∀ v μ, R v μ → R' v μ) : WS o N' R' X := by
  cases o with
  | nx ρ μ => exact hn _ _ h
  | rt v μ => exact hr _ _ h
  | raise e ρ μ => exact h
  | stuck => exact h
theorem WS.of_nx {ρ : Rho} {μ : List Cel} (h : o = .nx ρ μ) (q : N ρ μ) : WS o N R X := by rw [h]; exact q
variable {a b c d : SX} {e : EX} {t : TX} {ρ : Rho} {μ : List Cel} {g : GX} {i : Nat}
@[simp] theorem ws_seq : WS (sSeq a b ρ μ) N R X = WS (a ρ μ) (fun ρ μ => WS (b ρ μ) N R X) R X := ws_bind
@[simp] theorem ws_skip : WS (sSkip ρ μ) N R X = N ρ μ := rfl
@[simp] theorem ws_never : WS (sNever ρ μ) N R X = False := rfl
@[simp] theorem ws_ret : WS (sRet e ρ μ) N R X = WE (e ρ μ) R (fun x μ => X x ρ μ) := ws_sbind
@[simp] theorem ws_retN : WS (sRetN ρ μ) N R X = R (.d .non) μ := rfl
@[simp] theorem ws_do : WS (sDo e ρ μ) N R X = WE (e ρ μ) (fun _ μ => N ρ μ) (fun x μ => X x ρ μ) := ws_sbind
@[simp] theorem ws_asg : WS (sAsg e g ρ μ) N R X = WE (e ρ μ) (fun v μ => WS (g v ρ μ) N R X) (fun x μ => X x ρ μ) := ws_sbind
@[simp] theorem ws_if : WS (sIf t a b ρ μ) N R X = WE (t ρ μ) (fun x μ => if x = true then WS (a ρ μ) N R X else WS (b ρ μ) N R X) (fun x μ => X x ρ μ) := by
  unfold sIf
  rw [ws_sbind]
  congr 1
  funext x μ
  cases x <;> rfl
@[simp] theorem ws_gN {v : DV} : WS (gN i v ρ μ) N R X = N (ρ.set i (some v)) μ := rfl
@[simp] theorem ws_gT {n : Nat} {gs : GXs} {ds : List Dat} : WS (gT n gs (.d (.tup ds)) ρ μ) N R X = (ds.length = n ∧ WS (gs ds ρ μ) N R X) := by
  show WS (if ds.length = n then gs ds ρ μ else .stuck) N R X = _
  by_cases h : ds.length = n <;> simp [h]
@[simp] theorem ws_gsN : WS (gsN [] ρ μ) N R X = N ρ μ := rfl
@[simp] theorem ws_gsC {gs : GXs} {v : Dat} {vs : List Dat} : WS (gsC g gs (v :: vs) ρ μ) N R X = WS (g (.d v) ρ μ) (fun ρ μ => WS (gs vs ρ μ) N R X) R X := ws_bind
@[simp] theorem ws_par2 {j : Nat} {as : EXs} : WS (sPar2 i j as ρ μ) N R X = WE (as ρ μ) (fun vs μ => match vs with
    | [v, w] => N ((ρ.set i (some v)).set j (some w)) μ
    | _ => False) (fun x μ => X x ρ μ) := by
  unfold sPar2
  rw [ws_sbind]
  congr 1
  funext vs μ
  split <;> simp
@[simp] theorem ws_par3 {j l : Nat} {as : EXs} : WS (sPar3 i j l as ρ μ) N R X = WE (as ρ μ) (fun vs μ => match vs with
    | [u, v, w] => N (((ρ.set i (some u)).set j (some v)).set l (some w)) μ
    | _ => False) (fun x μ => X x ρ μ) := by
  unfold sPar3
  rw [ws_sbind]
  congr 1
  funext vs μ
  split <;> simp
theorem ws_for {it : IX} : WS (sFor it g b ρ μ) N R X = WE (it ρ μ) (fun ds μ => WS (forL g b ds ρ μ) N R X) (fun x μ => X x ρ μ) := ws_sbind
@[simp] theorem ws_gIx {o i : EX} {v : DV} : WS (gIx o i v ρ μ) N R X = WE (o ρ μ) (fun ov μ => WE (i ρ μ) (fun iv μ => WS (setIx ov iv v ρ μ) N R X) (fun x μ => X x ρ μ)) (fun x μ => X x ρ μ) := by
  unfold gIx
  rw [ws_sbind]
  congr 1
  funext ov μ
  exact ws_sbind
@[simp] theorem ws_setIx {n : Nat} {k : Int} {x : Dat} : WS (setIx (.c n) (.d (.int k)) (.d x) ρ μ) N R X = ∃ ds j, μ[n]? = some (.lst ds) ∧ ixN ds.length k = some j ∧ N ρ (μ.set n (.lst (ds.set j x))) := by
  unfold setIx
  cases h : μ[n]? with
  | none => simp [h]
  | some c =>
    cases c with
    | lst ds =>
      cases h2 : ixN ds.length k with
      | none => simp [h, h2]
      | some j => simp [h, h2]
    | ins _ _ => simp [h]
    | dead => simp [h]
    | lv _ => simp [h]
@[simp] theorem ws_sFld {cs : List Nat} {o v : EX} : WS (sFldS cs i o v ρ μ) N R X = WE (v ρ μ) (fun y μ => WE (o ρ μ) (fun x μ => WS (setFld cs i x y ρ μ) N R X) (fun x μ => X x ρ μ)) (fun x μ => X x ρ μ) := by
  unfold sFldS
  rw [ws_sbind]
  congr 1
  funext ov μ
  exact ws_sbind
@[simp] theorem ws_setFld {cs : List Nat} {n : Nat} {v : DV} : WS (setFld cs i (.c n) v ρ μ) N R X = match μ[n]? with
    | some (.ins c fs) => c ∈ cs ∧ fs.length < 1000 ∧ N ρ (μ.set n (.ins c (putN i v fs)))
    | _ => False := by
  unfold setFld
  dsimp only
  cases h : μ[n]? with
  | none => simp
  | some c =>
    cases c with
    | lst ds => simp
    | ins c fs =>
      by_cases h1 : c ∈ cs <;> by_cases h2 : fs.length < 1000 <;> simp [h1, h2]
    | dead => simp
    | lv _ => simp
end
section
variable {Q : DV → List Cel → Prop} {X : Exn → List Cel → Prop} {ρ : Rho} {μ : List Cel} {a b c : EX} {t t2 : TX} {i : Nat} {x y : DV}
@[simp] theorem we_k {v : Dat} : WE (eK v ρ μ) Q X = Q (.d v) μ := rfl
@[simp] theorem we_v : WE (eV i ρ μ) Q X = ∃ v, ρ[i]? = some (some v) ∧ Q v μ := by
  unfold eV
  cases h : ρ[i]? with
  | none => simp
  | some o => cases o <;> simp
@[simp] theorem we_e1 {g : G1} : WE (e1 g a ρ μ) Q X = WE (a ρ μ) (fun x μ => WE (g x μ) Q X) X := we_bind
@[simp] theorem we_e2 {g : G2} : WE (e2 g a b ρ μ) Q X = WE (a ρ μ) (fun x μ => WE (b ρ μ) (fun y μ => WE (g x y μ) Q X) X) X := by
  unfold e2
  rw [we_bind]
  congr 1
  funext x μ
  exact we_bind
@[simp] theorem we_eN {g : Gn} {as : EXs} : WE (eN g as ρ μ) Q X = WE (as ρ μ) (fun xs μ => WE (g xs μ) Q X) X := we_bind
@[simp] theorem we_as0 {Q : List DV → List Cel → Prop} : WE (as0 ρ μ) Q X = Q [] μ := rfl
@[simp] theorem we_as1 {as : EXs} {Q : List DV → List Cel → Prop} : WE (as1 a as ρ μ) Q X = WE (a ρ μ) (fun x μ => WE (as ρ μ) (fun xs μ => Q (x :: xs) μ) X) X := by
  unfold as1
  rw [we_bind]
  congr 1
  funext x μ
  rw [we_bind]
  rfl
@[simp] theorem we_call {n : Nat} {g : Gn} {as : EXs} : WE (eCall n g as ρ μ) Q X = WE (as ρ μ) (fun xs μ => xs.length = n ∧ WE (g xs μ) Q X) X := by
  unfold eCall
  rw [we_bind]
  congr 1
  funext xs μ
  by_cases h : xs.length = n <;> simp [h]
@[simp] theorem we_callK {n m : Nat} {g : Gn} {as zs : EXs} : WE (eCallK n m g as zs ρ μ) Q X = WE (as ρ μ) (fun xs μ => WE (zs ρ μ) (fun ys μ => xs.length = n ∧ ys.length = m ∧ WE (g (xs ++ ys) μ) Q X) X) X := by
  unfold eCallK
  rw [we_bind]
  congr 1
  funext xs μ
  rw [we_bind]
  congr 1
  funext ys μ
  by_cases h : xs.length = n <;> by_cases h2 : ys.length = m <;> simp [h, h2]
@[simp] theorem we_tTru {Q : Bool → List Cel → Prop} : WE (tTru a ρ μ) Q X = WE (a ρ μ) (fun x μ => ∃ b, truD x μ = some b ∧ Q b μ) X := by
  unfold tTru
  rw [we_bind]
  congr 1
  funext x μ
  cases truD x μ <;> simp
@[simp] theorem we_tBool {Q : Bool → List Cel → Prop} : WE (tBool a ρ μ) Q X = WE (a ρ μ) (fun x μ => ∃ b, x = .d (.bl b) ∧ Q b μ) X := by
  unfold tBool
  rw [we_bind]
  congr 1
  funext x μ
  cases x with
  | c n => simp
  | d x => cases x <;> simp
@[simp] theorem we_tAnd {Q : Bool → List Cel → Prop} : WE (tAndX t t2 ρ μ) Q X = WE (t ρ μ) (fun x μ => if x = true then WE (t2 ρ μ) Q X else Q false μ) X := by
  unfold tAndX
  rw [we_bind]
  congr 1
  funext x μ
  cases x <;> rfl
@[simp] theorem we_tOr {Q : Bool → List Cel → Prop} : WE (tOrX t t2 ρ μ) Q X = WE (t ρ μ) (fun x μ => if x = true then Q true μ else WE (t2 ρ μ) Q X) X := by
  unfold tOrX
  rw [we_bind]
  congr 1
  funext x μ
  cases x <;> rfl
@[simp] theorem we_tNot {Q : Bool → List Cel → Prop} : WE (tNotX t ρ μ) Q X = WE (t ρ μ) (fun x μ => Q (!x) μ) X := we_bind
@[simp] theorem we_tTrue {Q : Bool → List Cel → Prop} : WE (tTrue ρ μ) Q X = Q true μ := rfl
@[simp] theorem we_and : WE (eAnd a b ρ μ) Q X = WE (a ρ μ) (fun x μ => ∃ t, truD x μ = some t ∧ if t = true then WE (b ρ μ) Q X else Q x μ) X := by
  unfold eAnd
  rw [we_bind]
  congr 1
  funext x μ
  cases truD x μ with
  | none => simp
  | some t => cases t <;> simp
@[simp] theorem we_or : WE (eOr a b ρ μ) Q X = WE (a ρ μ) (fun x μ => ∃ t, truD x μ = some t ∧ if t = true then Q x μ else WE (b ρ μ) Q X) X := by
  unfold eOr
  rw [we_bind]
  congr 1
  funext x μ
  cases truD x μ with
  | none => simp
  | some t => cases t <;> simp
@[simp] theorem we_not : WE (eNot a ρ μ) Q X = WE (a ρ μ) (fun x μ => ∃ t, truD x μ = some t ∧ Q (.d (.bl (!t))) μ) X := by
  unfold eNot
  rw [we_bind]
  congr 1
  funext x μ
  cases truD x μ with
  | none => simp
  | some t => cases t <;> simp
@[simp] theorem we_if : WE (eIf t a b ρ μ) Q X = WE (t ρ μ) (fun x μ => if x = true then WE (a ρ μ) Q X else WE (b ρ μ) Q X) X := by
  unfold eIf
  rw [we_bind]
  congr 1
  funext x μ
  cases x <;> rfl
@[simp] theorem we_chain {g g' : G2} : WE (eChain g g' a b c ρ μ) Q X = WE (a ρ μ) (fun x μ => WE (b ρ μ) (fun y μ => WE (g x y μ) (fun z μ => ∃ t, z = .d (.bl t) ∧ if t = true then WE (c ρ μ) (fun w μ => WE (g' y w μ) Q X) X else Q (.d (.bl false)) μ) X) X) X := by
  unfold eChain
  rw [we_bind]
  congr 1
  funext x μ
  rw [we_bind]
  congr 1
  funext y μ
  rw [we_bind]
  congr 1
  funext z μ
  cases z with
  | c n => simp
  | d z =>
    cases z with
    | bl t => cases t <;> simp [we_bind]
    | _ => simp
@[simp] theorem we_sl {lo hi : OX} : WE (eSl a lo hi ρ μ) Q X = WE (a ρ μ) (fun x μ => WE (lo ρ μ) (fun l μ => WE (hi ρ μ) (fun h μ => WE (slD x l h μ) Q X) X) X) X := by
  unfold eSl
  rw [we_bind]
  congr 1
  funext x μ
  rw [we_bind]
  congr 1
  funext y μ
  exact we_bind
@[simp] theorem we_oN {Q : Option Int → List Cel → Prop} : WE (oN ρ μ) Q X = Q none μ := rfl
@[simp] theorem we_oS {Q : Option Int → List Cel → Prop} : WE (oS a ρ μ) Q X = WE (a ρ μ) (fun x μ => WE (toI x μ) Q X) X := we_bind
@[simp] theorem we_toI {i : Int} {Q : Option Int → List Cel → Prop} : WE (toI (.d (.int i)) μ) Q X = Q (some i) μ := rfl
@[simp] theorem we_rev : WE (eRev a ρ μ) Q X = WE (a ρ μ) (fun x μ => WE (revD x μ) Q X) X := we_bind
@[simp] theorem we_revL {ds : List Dat} : WE (revD (.d (.lst ds)) μ) Q X = Q (.d (.lst ds.reverse)) μ := rfl
@[simp] theorem we_lm1 {g : G2} : WE (eLm1 g a b ρ μ) Q X = WE (a ρ μ) (fun x μ => isLstV x μ = true ∧ WE (b ρ μ) (fun y μ => WE (g x y μ) Q X) X) X := by
  unfold eLm1
  rw [we_bind]
  congr 1
  funext x μ
  by_cases h : isLstV x μ = true <;> simp [h, we_bind]
@[simp] theorem we_meth {n : Nat} {tb : MT} {as : EXs} : WE (eMeth n tb a as ρ μ) Q X = WE (a ρ μ) (fun x μ => ∃ g, ((insC x μ).bind fun c => tb.lookup c) = some g ∧ WE (as ρ μ) (fun xs μ => xs.length = n ∧ WE (g (x :: xs) μ) Q X) X) X := by
  unfold eMeth
  rw [we_bind]
  congr 1
  funext x μ
  cases h : (insC x μ).bind fun c => tb.lookup c with
  | none => simp
  | some g =>
    simp only [we_bind, Option.some.injEq, exists_eq_left']
    congr 1
    funext xs μ
    by_cases h : xs.length = n <;> simp [h]
@[simp] theorem we_callV {c n : Nat} {g : Gn} {as : EXs} : WE (eCallV i c n g as ρ μ) Q X = (ρ[i]? = some (some (.d (.cls c))) ∧ WE (eCall n g as ρ μ) Q X) := by
  unfold eCallV
  by_cases h : ρ[i]? = some (some (.d (.cls c)))
  · rw [h]
    simp
  · split
    · rename_i c' q
      by_cases hc : c' = c
      · subst hc
        exact absurd q h
      · simp [hc, h]
    · simp [h]
end
section
variable {Q : DV → List Cel → Prop} {X : Exn → List Cel → Prop} {μ : List Cel}
theorem we_ite {o : Out DV} {p : Prop} [Decidable p] : WE (if p then o else .stuck) Q X = (p ∧ WE o Q X) := by
  by_cases h : p <;> simp [h]
@[simp] theorem we_addI {a b : Int} : WE (addD (.d (.int a)) (.d (.int b)) μ) Q X = Q (.d (.int (a + b))) μ := rfl
@[simp] theorem we_addS {a b : List Nat} : WE (addD (.d (.str a)) (.d (.str b)) μ) Q X = (a.length + b.length ≤ 16777216 ∧ Q (.d (.str (a ++ b))) μ) := we_ite
@[simp] theorem we_addT {a b : List Dat} : WE (addD (.d (.tup a)) (.d (.tup b)) μ) Q X = (a.length + b.length ≤ 16777216 ∧ blT (a ++ b) = false ∧ Q (.d (.tup (a ++ b))) μ) := (we_ite (o := okD (.tup (a ++ b)) μ) (p := a.length + b.length ≤ LIM ∧ blT (a ++ b) = false)).trans (propext and_assoc)
@[simp] theorem we_addL {a b : List Dat} : WE (addD (.d (.lst a)) (.d (.lst b)) μ) Q X = (a.length + b.length ≤ 16777216 ∧ Q (.d (.lst (a ++ b))) μ) := we_ite
@[simp] theorem we_sub {a b : Int} : WE (subD (.d (.int a)) (.d (.int b)) μ) Q X = Q (.d (.int (a - b))) μ := rfl
@[simp] theorem we_mul {a b : Int} : WE (mulD (.d (.int a)) (.d (.int b)) μ) Q X = (((-(2 ^ 64) < a ∧ a < 2 ^ 64) ∨ (-(2 ^ 64) < b ∧ b < 2 ^ 64)) ∧ Q (.d (.int (a * b))) μ) := we_ite
@[simp] theorem we_mulL {a : List Dat} {b : Int} : WE (mulD (.d (.lst a)) (.d (.int b)) μ) Q X = ((-(2 ^ 62) < b ∧ b < 2 ^ 62 ∧ a.length * b.toNat ≤ 16777216) ∧ Q (.d (.lst (List.replicate b.toNat a).flatten)) μ) := we_ite
@[simp] theorem we_fdiv {a b : Int} : WE (fdivD (.d (.int a)) (.d (.int b)) μ) Q X = ((0 < b ∧ b < 1073741824) ∧ Q (.d (.int (a / b))) μ) := we_ite
@[simp] theorem we_mod {a b : Int} : WE (modD (.d (.int a)) (.d (.int b)) μ) Q X = (0 < b ∧ Q (.d (.int (a % b))) μ) := we_ite
@[simp] theorem we_pow {a b : Int} : WE (powD (.d (.int a)) (.d (.int b)) μ) Q X = ((0 ≤ b ∧ b ≤ 1000000 ∧ a.natAbs < 2 ^ 64) ∧ Q (.d (.int (a ^ b.toNat))) μ) := we_ite
@[simp] theorem we_neg {a : Int} : WE (negD (.d (.int a)) μ) Q X = Q (.d (.int (-a))) μ := rfl
@[simp] theorem we_eqB {a b : Dat} : WE (eqB (.d a) (.d b) μ) Q X = ((shal 60 a && shal 60 b) = true ∧ Q (.d (.bl (eqD a b))) μ) := we_ite
@[simp] theorem we_neB {a b : Dat} : WE (neB (.d a) (.d b) μ) Q X = ((shal 60 a && shal 60 b) = true ∧ Q (.d (.bl (!eqD a b))) μ) := we_ite
@[simp] theorem we_lt {a b : Int} : WE (ltD (.d (.int a)) (.d (.int b)) μ) Q X = Q (.d (.bl (decide (a < b)))) μ := rfl
@[simp] theorem we_le {a b : Int} : WE (leD (.d (.int a)) (.d (.int b)) μ) Q X = Q (.d (.bl (decide (a ≤ b)))) μ := rfl
@[simp] theorem we_gt {a b : Int} : WE (gtD (.d (.int a)) (.d (.int b)) μ) Q X = Q (.d (.bl (decide (b < a)))) μ := rfl
@[simp] theorem we_ge {a b : Int} : WE (geD (.d (.int a)) (.d (.int b)) μ) Q X = Q (.d (.bl (decide (b ≤ a)))) μ := rfl
@[simp] theorem we_isN {a : Dat} : WE (isN (.d a) (.d .non) μ) Q X = Q (.d (.bl (isNonD a))) μ := rfl
@[simp] theorem we_notN {a : Dat} : WE (notN (.d a) (.d .non) μ) Q X = Q (.d (.bl (!isNonD a))) μ := rfl
@[simp] theorem we_isNc {n : Nat} : WE (isN (.c n) (.d .non) μ) Q X = Q (.d (.bl false)) μ := rfl
@[simp] theorem we_notNc {n : Nat} : WE (notN (.c n) (.d .non) μ) Q X = Q (.d (.bl true)) μ := rfl
theorem we_ofO {o : Option Dat} : WE (ofO o μ) Q X = ∃ d, o = some d ∧ Q (.d d) μ := by cases o <;> simp [ofO]
@[simp] theorem we_ixT {ds : List Dat} {i : Int} : WE (ixD (.d (.tup ds)) (.d (.int i)) μ) Q X = ∃ d, atI ds i = some d ∧ Q (.d d) μ := we_ofO
@[simp] theorem we_ixL {ds : List Dat} {i : Int} : WE (ixD (.d (.lst ds)) (.d (.int i)) μ) Q X = ∃ d, atI ds i = some d ∧ Q (.d d) μ := we_ofO
@[simp] theorem we_ixF {ds : List Dat} {i : Int} : WE (ixD (.d (.fl ds)) (.d (.int i)) μ) Q X = ∃ d, atI ds i = some d ∧ Q (.d d) μ := we_ofO
@[simp] theorem we_ixS {s : List Nat} {i : Int} : WE (ixD (.d (.str s)) (.d (.int i)) μ) Q X = ∃ c, atI s i = some c ∧ Q (.d (.str [c])) μ := by
  show WE (ofO ((atI s i).map fun c => .str [c]) μ) Q X = _
  rw [we_ofO]
  cases atI s i <;> simp
@[simp] theorem we_ixC {n : Nat} {i : Int} : WE (ixD (.c n) (.d (.int i)) μ) Q X = ∃ ds d, μ[n]? = some (.lst ds) ∧ atI ds i = some d ∧ Q (.d d) μ := by
  cases h : μ[n]? with
  | none => simp [ixD, h]
  | some c => cases c <;> simp [ixD, h, we_ofO]
@[simp] theorem we_slT {ds : List Dat} {l h : Option Int} : WE (slD (.d (.tup ds)) l h μ) Q X = (blT (cutL ds l h) = false ∧ Q (.d (.tup (cutL ds l h))) μ) := we_ite (o := okD (.tup (cutL ds l h)) μ) (p := blT (cutL ds l h) = false)
@[simp] theorem we_slL {ds : List Dat} {l h : Option Int} : WE (slD (.d (.lst ds)) l h μ) Q X = Q (.d (.lst (cutL ds l h))) μ := rfl
@[simp] theorem we_slF {ds : List Dat} {l h : Option Int} : WE (slD (.d (.fl ds)) l h μ) Q X = Q (.d (.lst (cutL ds l h))) μ := rfl
@[simp] theorem we_slS {ds : List Nat} {l h : Option Int} : WE (slD (.d (.str ds)) l h μ) Q X = Q (.d (.str (cutL ds l h))) μ := rfl
@[simp] theorem we_len {x : DV} : WE (lenG [x] μ) Q X = ∃ n, lenN x μ = some n ∧ Q (.d (.int (n : Nat))) μ := by
  cases h : lenN x μ <;> simp [lenG, h]
@[simp] theorem we_abs {i : Int} : WE (absG [.d (.int i)] μ) Q X = Q (.d (.int (if i < 0 then -i else i))) μ := rfl
@[simp] theorem we_max {i j : Int} : WE (maxG [.d (.int i), .d (.int j)] μ) Q X = Q (.d (.int (if j > i then j else i))) μ := rfl
@[simp] theorem we_min {i j : Int} : WE (minG [.d (.int i), .d (.int j)] μ) Q X = Q (.d (.int (if j < i then j else i))) μ := rfl
@[simp] theorem we_intI {i : Int} : WE (intG [.d (.int i)] μ) Q X = Q (.d (.int i)) μ := rfl
@[simp] theorem we_intB {i : Bool} : WE (intG [.d (.bl i)] μ) Q X = Q (.d (.int (if i then 1 else 0))) μ := rfl
@[simp] theorem we_tupT {ds : List Dat} : WE (tupleG [.d (.tup ds)] μ) Q X = Q (.d (.tup ds)) μ := rfl
@[simp] theorem we_tupL {ds : List Dat} : WE (tupleG [.d (.lst ds)] μ) Q X = Q (.d (.tup ds)) μ := rfl
@[simp] theorem we_tupC {n : Nat} : WE (tupleG [.c n] μ) Q X = ∃ ds, μ[n]? = some (.lst ds) ∧ Q (.d (.tup ds)) μ := by
  cases h : μ[n]? with
  | none => simp [tupleG, h]
  | some c => cases c <;> simp [tupleG, h]
@[simp] theorem we_lstT {ds : List Dat} : WE (listG [.d (.tup ds)] μ) Q X = Q (.d (.lst ds)) μ := rfl
@[simp] theorem we_lstL {ds : List Dat} : WE (listG [.d (.lst ds)] μ) Q X = Q (.d (.lst ds)) μ := rfl
@[simp] theorem we_any {x : DV} : WE (anyG [x] μ) Q X = ∃ bs, (seqs x μ).bind bls = some bs ∧ Q (.d (.bl (bs.any id))) μ := by
  cases h : (seqs x μ).bind bls <;> simp [anyG, h]
@[simp] theorem we_all {x : DV} : WE (allG [x] μ) Q X = ∃ bs, (seqs x μ).bind bls = some bs ∧ Q (.d (.bl (bs.all id))) μ := by
  cases h : (seqs x μ).bind bls <;> simp [allG, h]
@[simp] theorem we_sum {x : DV} : WE (sumG [x] μ) Q X = ∃ bs, (seqs x μ).bind intsD = some bs ∧ Q (.d (.int bs.sum)) μ := by
  cases h : (seqs x μ).bind intsD <;> simp [sumG, h]
@[simp] theorem we_divmod {i j : Int} : WE (divmodG [.d (.int i), .d (.int j)] μ) Q X = ((0 < j ∧ j < 1073741824) ∧ Q (.d (.tup [.int (i / j), .int (i % j)])) μ) := we_ite
@[simp] theorem we_eTup {xs : List DV} : WE (eTupD xs μ) Q X = ∃ ds, dats xs = some ds ∧ ds.length ≤ 16777216 ∧ blT ds = false ∧ Q (.d (.tup ds)) μ := by
  unfold eTupD
  cases h : dats xs with
  | none => simp
  | some ds => simp [we_ite, and_assoc]
@[simp] theorem we_eLst {xs : List DV} : WE (eLstD xs μ) Q X = ∃ ds, dats xs = some ds ∧ ds.length ≤ 16777216 ∧ Q (.d (.lst ds)) μ := by
  unfold eLstD
  cases h : dats xs with
  | none => simp
  | some ds => simp [we_ite]
@[simp] theorem we_eLstC {xs : List DV} : WE (eLstC xs μ) Q X = ∃ ds, dats xs = some ds ∧ ds.length ≤ 16777216 ∧ Q (.c μ.length) (μ ++ [.lst ds]) := by
  unfold eLstC
  cases h : dats xs with
  | none => simp
  | some ds => simp [we_ite]
@[simp] theorem dats_nil : dats [] = some [] := rfl
@[simp] theorem dats_cons (x : Dat) (r : List DV) : dats (.d x :: r) = (dats r).map (x :: ·) := rfl
@[simp] theorem dats_map (l : List Dat) : dats (l.map .d) = some l := by
  induction l with
  | nil => rfl
  | cons a l ih => simp [ih]
@[simp] theorem we_append {n : Nat} {v : Dat} : WE (appendD (.c n) (.d v) μ) Q X = ∃ ds, μ[n]? = some (.lst ds) ∧ ds.length < 16777216 ∧ Q (.d .non) (μ.set n (.lst (ds ++ [v]))) := by
  cases h : μ[n]? with
  | none => simp [appendD, h]
  | some c => cases c <;> simp [appendD, h, we_ite]
@[simp] theorem we_extend {n : Nat} {es : List Dat} : WE (extendD (.c n) (.d (.lst es)) μ) Q X = ∃ ds, μ[n]? = some (.lst ds) ∧ ds.length + es.length ≤ 16777216 ∧ Q (.d .non) (μ.set n (.lst (ds ++ es))) := by
  cases h : μ[n]? with
  | none => simp [extendD, h]
  | some c => cases c <;> simp [extendD, h, we_ite]
@[simp] theorem we_isi {T : String} {x : DV} : WE (isiG T x μ) Q X = ∃ t, tyNm x μ = some t ∧ Q (.d (.bl (isiB t T))) μ := by
  unfold isiG
  cases tyNm x μ <;> simp
@[simp] theorem we_reprL {ds : List Dat} : WE (reprG (.d (.lst ds)) μ) Q X = (reprOk (.lst ds) = true ∧ Q (.d (.str (reprD (.lst ds)))) μ) := we_ite
@[simp] theorem we_reprT {ds : List Dat} : WE (reprG (.d (.tup ds)) μ) Q X = (reprOk (.tup ds) = true ∧ Q (.d (.str (reprD (.tup ds)))) μ) := we_ite
@[simp] theorem we_sortSet {x : DV} : WE (sortSetD x μ) Q X = ∃ ns, (seqsT x μ).bind intsD = some ns ∧ (ns.length < 1000 ∧ (sSet ns).length < 64) ∧ Q (.d (.lst (intsDat (sSet ns)))) μ := by
  unfold sortSetD
  cases (seqsT x μ).bind intsD with
  | none => simp
  | some ns => simp [we_ite]
@[simp] theorem we_fld {cs : List Nat} {i : Nat} {x : DV} : WE (fldG cs i x μ) Q X = ∃ c v, insC x μ = some c ∧ c ∈ cs ∧ insF x μ i = some v ∧ Q v μ := by
  unfold fldG
  cases insC x μ with
  | none => simp
  | some c =>
    by_cases h : c ∈ cs
    · cases insF x μ i <;> simp [h]
    · simp [h]
theorem we_noR {o : Out DV} : WE (noR o) Q X = WE o Q X0 := by cases o <;> rfl
@[simp] theorem we_prop {c : Nat} {g : Gn} {x : DV} : WE (propG c g x μ) Q X = (insC x μ = some c ∧ WE (g [x] μ) Q X0) := by
  unfold propG
  by_cases h : insC x μ = some c <;> simp [h, we_noR]
@[simp] theorem we_inOwn {c : Nat} {g : Gn} {x y : DV} : WE (inOwnG c g x y μ) Q X = (insC y μ = some c ∧ WE (g [y, x] μ) (fun v μ => ∃ b, v = .d (.bl b) ∧ Q v μ) X0) := by
  unfold inOwnG bolG
  by_cases h : insC y μ = some c
  · simp only [h, if_true, true_and, we_bind, we_noR]
    congr 1
    · funext v μ
      cases v with
      | c n => simp
      | d x => cases x <;> simp
    
  · simp [h]
end
section
variable {Q : DV → List Cel → Prop} {X : Exn → List Cel → Prop} {μ : List Cel}
theorem we_fin {frz : Bool} {n : Nat} {o : SOut} : WE (fin frz n o) Q X = WS o (fun _ μ' => Q (.d .non) (cutM n μ')) (fun v μ' => WE (finV frz n v μ') Q X) (fun e _ μ' => X e (cutM n μ')) := by cases o <;> rfl
@[simp] theorem we_fnG {frz : Bool} {N : Nat} {b : SX} {ds : List DV} : WE (fnG frz N b ds μ) Q X = WS (b (rho0 N ds) μ) (fun _ μ' => Q (.d .non) (cutM μ.length μ')) (fun v μ' => WE (finV frz μ.length v μ') Q X) (fun e _ μ' => X e (cutM μ.length μ')) := we_fin
@[simp] theorem we_finD {frz : Bool} {n : Nat} {x : Dat} : WE (finV frz n (.d x) μ) Q X = Q (.d x) (cutM n μ) := rfl
@[simp] theorem we_finC {n j : Nat} : WE (finV false n (.c j) μ) Q X = Q (.c j) μ := rfl
@[simp] theorem we_starG {frz : Bool} {N : Nat} {b : SX} {aD rD : List DV → List DV} {ds : List DV} : WE (starG frz N b aD rD ds μ) Q X = ∃ es, dats (rD ds) = some es ∧ es.length ≤ 16777216 ∧ blT es = false ∧ WE (fnG frz N b (aD ds ++ [.d (.tup es)]) μ) Q X := by
  unfold starG
  cases h : dats (rD ds) with
  | none => simp
  | some es => by_cases hl : es.length ≤ 16777216 <;> by_cases hb : blT es = false <;> simp [hl, hb]
@[simp] theorem cutM_self' (μ : List Cel) : cutM μ.length μ = μ := cutM_self μ
end
end DL
set_option Elab.async false
set_option linter.all false
set_option maxRecDepth 100000
set_option maxHeartbeats 4000000
namespace DL
open PySem PySem.Spec PyProof.Rows L2
mutual
def kOk (K : Fr) : Dat → Value → Bool
  | .non, .none => true
  | .bl b, .bool c => b == c
  | .int i, .int j _ => i == j
  | .str s, .str z _ => decide (s.length ≤ LIM) && decide (z = sV s)
  | .tup ds, .ref a => (match K.lookup a with
    | some ⟨.type c, none, .seq its _, _⟩ => decide (c = "tuple") && (decide (its.size ≤ LIM) && kOks K ds its.toList)
    | _ => false)
  | _, _ => false
def kOks (K : Fr) : List Dat → List Value → Bool
  | [], [] => true
  | d :: ds, u :: us => kOk K d u && kOks K ds us
  | _, _ => false
end
mutual
theorem kOk_ok {K : Fr} : ∀ (d : Dat) (u : Value), kOk K d u = true → ∃ v, RelV v u ∧ ∀ F, Rep K F d v
  | .non, .none, _ => ⟨.non, rfl, fun _ => rfl⟩
  | .bl b, .bool c, h => by
    have e : b = c := by simpa [kOk] using h
    exact ⟨.bl b, by rw [e]; rfl, fun _ => rfl⟩
  | .int i, .int j t, h => by
    have e : i = j := by simpa [kOk] using h
    exact ⟨.int i, ⟨t, by rw [e]⟩, fun _ => rfl⟩
  | .str s, .str z t, h => by
    have e : s.length ≤ LIM ∧ z = sV s := by simpa [kOk] using h
    exact ⟨.str (sV s), ⟨t, by rw [e.2]⟩, fun _ => ⟨e.1, rfl⟩⟩
  | .tup ds, .ref a, h => by
    unfold kOk at h
    split at h
    · rename_i c its n sl q
      have e : c = "tuple" ∧ its.size ≤ LIM ∧ kOks K ds its.toList = true := by simpa using h
      obtain ⟨vs, r, rep⟩ := kOks_ok ds its.toList e.2.2
      have hl : vs.length = its.size := by
        have := r.length
        simpa using this
      refine ⟨.ref a, rfl, fun F => ⟨?_, a, vs, rfl, ⟨.inr ⟨_, its, n, q, by rw [e.1], rfl, lim_line e.2.1, r⟩, fun _ => .inr ⟨_, q, rfl⟩⟩, rep F⟩⟩
      have h3 := (rep F).length
      have h4 := e.2.1
      omega
    · cases h
theorem kOks_ok {K : Fr} : ∀ (ds : List Dat) (us : List Value), kOks K ds us = true → ∃ vs, Vals vs us ∧ ∀ F, Reps K F ds vs
  | [], [], _ => ⟨[], .nil, fun _ => rfl⟩
  | d :: ds, u :: us, h => by
    have e : kOk K d u = true ∧ kOks K ds us = true := by simpa [kOks] using h
    obtain ⟨v, r, rep⟩ := kOk_ok d u e.1
    obtain ⟨vs, rs, reps⟩ := kOks_ok ds us e.2
    exact ⟨v :: vs, .cons r rs, fun F => ⟨v, vs, rfl, rep F, reps F⟩⟩
end
section
variable {X : Cx} {W : WX} {pos p apos : Pos} {e : Expr} {x : EX} {nm : Str}
/-- a constant of the module -/
theorem de_gk {d : Dat} (hg : Gl X nm) (hm : X.mg nm = some (.ref (He.ga X.K nm))) (hk : kOk X.K d (.ref (He.ga X.K nm)) = true) (hd : (nm == ("__debug__" : Str)) = false := by decide) : DE X W (.Name nm pos) (eK d) := by
  obtain ⟨v, r, rep⟩ := kOk_ok d _ hk
  exact de_g hg hm r rep hd
end
end DL
set_option Elab.async false
set_option linter.all false
set_option maxRecDepth 100000
set_option maxHeartbeats 4000000
namespace DL
open PySem PySem.Spec PyProof.Rows L2
/-- what isinstance asks of the class c of an instance -/
def tyCB (K : Fr) (c : Nat) : Bool := He.Fa.ok K (.cls (clsNm c)) && (He.eqO (PySem.W.findIn K (.ref (He.ga K (clsNm c))) "__class__") (some (some (.builtin "object.__class__"))) && (decide (PySem.W.mroIn K (He.ga K (clsNm c)) (.type "object") = some true) &&
  (He.eqO (PySem.W.specialIn K (.builtin "object.__class__") "__get__") (some (some (.builtin "getset_descriptor.__get__"))) && decide (PySem.W.takesIn K (.builtin "object.__class__") = some true))))
def isiChk (K : Fr) (u : Value) (tt : List (String × Bool)) (cc : List (Nat × Bool)) : Bool := (tt.all fun p => decide (PySem.W.kitOne K (.type p.1) u = some p.2)) && (cc.all fun p => decide (PySem.W.kitOne K (.ref (He.ga K (clsNm p.1))) u = some p.2) && tyCB K p.1)
def isiX (tt : List (String × Bool)) (cc : List (Nat × Bool)) : G1 := fun x μ => match tyNm x μ with
  | some t => (match tt.lookup t with
    | some b => okD (.bl b) μ
    | none => .stuck)
  | none => (match insC x μ with
    | some c => (match cc.lookup c with
      | some b => okD (.bl b) μ
      | none => .stuck)
    | none => .stuck)
theorem lookup_mem {β γ : Type} [BEq β] [LawfulBEq β] {l : List (β × γ)} {k : β} {v : γ} (h : l.lookup k = some v) : (k, v) ∈ l := by
  induction l with
  | nil => cases h
  | cons p l ih =>
    obtain ⟨a, b⟩ := p
    rw [List.lookup_cons] at h
    by_cases e : (k == a) = true
    · rw [e] at h
      cases h
      have := eq_of_beq e
      subst this
      exact List.mem_cons_self
    · rw [Bool.eq_false_iff.mpr e] at h
      exact List.mem_cons_of_mem _ (ih h)
theorem tyC_ok {K : Fr} {c : Nat} (h : tyCB K c = true) {H : Hp} {a dx : Addr} {fv : List (Str × V)} (e : H a = some (.ins (He.ga K (clsNm c)) dx fv)) : TyX K H (.ref a) (.ref (He.ga K (clsNm c))) := by
  obtain ⟨h1, h⟩ := He.ba h
  obtain ⟨h2, h⟩ := He.ba h
  obtain ⟨h3, h⟩ := He.ba h
  obtain ⟨h4, h5⟩ := He.ba h
  exact .base (.ins e (He.cls_ok h1) (He.eqO_ok h2) (He.eqO_ok h4) (of_decide_eq_true h5) (of_decide_eq_true h3))
section
variable {X : Cx} {W : WX} {p p2 pos : Pos} {e : Expr} {x : EX}
theorem isiX_ok {K : Fr} {u : Value} {cv : V} {tt : List (String × Bool)} {cc : List (Nat × Bool)} (hk : ClsV cv u) (hc : isiChk K u tt cc = true) {F H : Hp} {α : List Addr} {μ : List Cel} {d : DV} {w : V} {Q : VK} {W : XK} (m : Mem K F H α μ) (r : RepV K F α d w) (o : OutOk (RV K) K F α (isiX tt cc d μ) Q W) : rIsi K [w, cv] H Q := by
  obtain ⟨h1, h2⟩ := He.ba hc
  unfold isiX at o
  cases q : tyNm d μ with
  | some t =>
    rw [q] at o
    simp only at o
    cases q2 : tt.lookup t with
    | none => rw [q2] at o; exact o.elim
    | some b =>
      rw [q2] at o
      have z := List.all_eq_true.mp h1 _ (lookup_mem q2)
      exact ⟨w, cv, .type t, u, b, rfl, hk, ty_of m r q, of_decide_eq_true z, outB m o⟩
  | none =>
    rw [q] at o
    simp only at o
    cases q1 : insC d μ with
    | none => rw [q1] at o; exact o.elim
    | some c =>
      rw [q1] at o
      simp only at o
      cases q2 : cc.lookup c with
      | none => rw [q2] at o; exact o.elim
      | some b =>
        rw [q2] at o
        obtain ⟨a, dx, fv, rfl, ea, _, _⟩ := ins_of m r q1
        obtain ⟨z1, z2⟩ := He.ba (List.all_eq_true.mp h2 _ (lookup_mem q2))
        exact ⟨_, cv, _, u, b, rfl, hk, tyC_ok z2 ea, of_decide_eq_true z1, outB m o⟩
/-- isinstance(e, C), C an own class -/
theorem de_isiOwn {y : Str} {C : Addr} {tt : List (String × Bool)} {cc : List (Nat × Bool)} (hg : Gl X "isinstance") (hm : X.mg "isinstance" = none) (hg2 : Gl X y) (hm2 : X.mg y = some (.ref C)) (hc : isiChk X.K (.ref C) tt cc = true) (he : DE X W e x) (hd : (y == ("__debug__" : Str)) = false := by decide)
    (hs : starEach [e, .Name y p2] X.env = (false, eval e X.env) :: starEach [.Name y p2] X.env := by rfl) (hs2 : starEach [.Name y p2] X.env = (false, eval (.Name y p2) X.env) :: starEach [] X.env := by rfl) (hpl : (backTo pos (starEach [.Name y p2] X.env)).any (·.1) = false := by rfl) :
    DE X W (.Call (.Name "isinstance" p) [e, .Name y p2] [] pos) (e1 (isiX tt cc) x) := by
  refine ⟨PE.of (pe_callB call_isi hg hm boot_isinstance (pa_cons he.pe (pa_cons (pe_glob hg2 hm2 (v := .ref C) rfl hd) pa_nil hs2) hs) (by decide) (by decide) hs hpl) fun σ H Q h => ?_⟩
  refine tX_bind (f := fun _ x μ => isiX tt cc x μ) h fun F α ρ μ v u H1 m s rv o => ?_
  exact isiX_ok (.own C) hc m rv o
end
/-- a call's end that raises nothing -/
theorem own_end {X : Cx} {pins : List (Addr × Obj)} {σ : St} {H : Hp} {s s' : Shared} {Q : VK} {r : Result} (I : Inv X pins σ H s) (hq : CR (L2.CX X.prog X.w) X.stack X.prog X.w H s Q E0 r s') : ∃ u, r = .ok (.ret u) ∧ EP X pins σ Q u s' := by
  cases r with
  | error er =>
    obtain ⟨_, _, _, _, _, _, _, _, _, _, _, _, z⟩ := (show L2.CX X.prog X.w _ _ _ E0 er s' from hq)
    exact z.elim
  | ok fl =>
    cases fl with
    | ret u => exact ⟨u, rfl, I.after hq⟩
    | next => exact False.elim hq
    | brk => exact False.elim hq
    | cont => exact False.elim hq
theorem ins_at {X : Cx} {pins : List (Addr × Obj)} {σ : St} {H : Hp} {s : Shared} {a C dx : Addr} {fv : List (Str × V)} (I : Inv X pins σ H s) (e : H a = some (.ins C dx fv)) : ∃ od, PySem.W.InstAt s.heap a (PySem.W.instObj C dx) C (some od) := by
  obtain ⟨mA, O, _, _, _, _⟩ := ins_get I.hok e
  obtain ⟨od, J, _⟩ := O.look
  exact ⟨od, J⟩
def binOwnG (c : Nat) (g : Gn) : G2 := fun x y μ => if insC x μ = some c ∧ insC y μ = some c then noR (g [x, y] μ) else .stuck
def unOwnG (c : Nat) (g : Gn) : G1 := fun x μ => if insC x μ = some c then noR (g [x] μ) else .stuck
section
variable {X : Cx} {W : WX} {pos : Pos} {e o : Expr} {x xo : EX} {c k : Nat} {f : Addr} {g : Gn}
def rBinOwn (K : Fr) (c : Nat) (g : Gn) : R2 := fun x y H Q => ∃ F α μ d1 d2, Mem K F H α μ ∧ RepV K F α d1 x ∧ RepV K F α d2 y ∧ insC d1 μ = some c ∧ insC d2 μ = some c ∧ OutOk (RV K) K F α (g [d1, d2] μ) Q E0
theorem op_binOwn {op : Operator} (sf : PySem.W.selfFirst X.K (He.ga X.K (clsNm c)) = true) (hs : PySem.W.findIn X.K (.ref (He.ga X.K (clsNm c))) (PySem.dunder op.info.2) = some (some (.ref f))) (hf : PySem.W.isFn X.K (.ref f) = true) (C : CD X.prog X.w X.K X.mg X.base k (.ref f) 2 [] g) (hr : RoomG k X.A) : OpR X (binaryOp op) (rBinOwn X.K c g) := by
  intro pins s σ H x y v u Q I rx ry h
  obtain ⟨F, α, μ, d1, d2, m, r1, r2, hc1, hc2, o⟩ := h
  obtain ⟨a, dx, fv, rfl, ea, _, _⟩ := ins_of m r1 hc1
  obtain ⟨b, dy, gv, rfl, eb, _, _⟩ := ins_of m r2 hc2
  obtain rfl : v = Value.ref a := rx
  obtain rfl : u = Value.ref b := ry
  obtain ⟨od, J⟩ := ins_at I ea
  obtain ⟨od', J'⟩ := ins_at I eb
  obtain ⟨mm, hF⟩ := I.fr
  refine PySem.W.binop_K hF I.ok.mod.kin J J'.type sf hs hf ?_
  refine wpAny_call (codeAny_mono (C X.A X.stack s H [.ref a, .ref b] [] [.ref a, .ref b] [] Q E0 F α μ [d1, d2] hr I.env0 (.cons rfl (.cons rfl .nil)) .nil rfl rfl m ⟨_, _, rfl, r1, _, _, rfl, r2, rfl⟩ o) fun r s' hq => ?_)
  obtain ⟨w, rfl, z, H', I', rz, q⟩ := own_end I hq
  exact SlX.cmpback rz ⟨z, H', I', rz, q⟩
theorem ok_binOwn {K : Fr} : OpOk K (rBinOwn K c g) (binOwnG c g) := by
  intro F α μ H d1 d2 x y Q W m r1 r2 o
  unfold binOwnG at o
  by_cases hc : insC d1 μ = some c ∧ insC d2 μ = some c
  · rw [if_pos hc] at o
    exact ⟨F, α, μ, d1, d2, m, r1, r2, hc.1, hc.2, noR_ok o⟩
  · rw [if_neg hc] at o; exact o.elim
theorem du_or : PySem.dunder (Operator.info .BitOr).2 = "__or__" := by decide +kernel
theorem du_and : PySem.dunder (Operator.info .BitAnd).2 = "__and__" := by decide +kernel
theorem de_binOwn {op : Operator} (sf : PySem.W.selfFirst X.K (He.ga X.K (clsNm c)) = true) (hs : PySem.W.findIn X.K (.ref (He.ga X.K (clsNm c))) (PySem.dunder op.info.2) = some (some (.ref f))) (hf : PySem.W.isFn X.K (.ref f) = true) (C : CD X.prog X.w X.K X.mg X.base k (.ref f) 2 [] g) (hr : RoomG k X.A) (he : DE X W e x) (ho : DE X W o xo) :
    DE X W (.BinOp e op o pos) (e2 (binOwnG c g) x xo) := de_op (op_binOwn sf hs hf C hr) ok_binOwn he ho
def rUnOwn (K : Fr) (c : Nat) (g : Gn) : V → Hp → VK → Prop := fun x H Q => ∃ F α μ d1, Mem K F H α μ ∧ RepV K F α d1 x ∧ insC d1 μ = some c ∧ OutOk (RV K) K F α (g [d1] μ) Q E0
theorem un_inv (hs : PySem.W.findIn X.K (.ref (He.ga X.K (clsNm c))) "__invert__" = some (some (.ref f))) (hf : PySem.W.isFn X.K (.ref f) = true) (C : CD X.prog X.w X.K X.mg X.base k (.ref f) 1 [] g) (hr : RoomG k X.A) : UnR X (unaryOp .Invert) (rUnOwn X.K c g) := by
  intro pins s σ H x v Q I rx h
  obtain ⟨F, α, μ, d1, m, r1, hc1, o⟩ := h
  obtain ⟨a, dx, fv, rfl, ea, _, _⟩ := ins_of m r1 hc1
  obtain rfl : v = Value.ref a := rx
  obtain ⟨od, J⟩ := ins_at I ea
  obtain ⟨mm, hF⟩ := I.fr
  refine PySem.W.ksp_inv hF I.ok.mod.kin J hs hf ?_
  refine wpAny_call (codeAny_mono (C X.A X.stack s H [.ref a] [] [.ref a] [] Q E0 F α μ [d1] hr I.env0 (.cons rfl .nil) .nil rfl rfl m ⟨_, _, rfl, r1, rfl⟩ o) fun r s' hq => ?_)
  obtain ⟨w, rfl, z⟩ := own_end I hq
  exact z
theorem ok_unOwn {K : Fr} : UnOk K (rUnOwn K c g) (unOwnG c g) := by
  intro F α μ H d1 x Q W m r1 o
  unfold unOwnG at o
  by_cases hc : insC d1 μ = some c
  · rw [if_pos hc] at o
    exact ⟨F, α, μ, d1, m, r1, hc, noR_ok o⟩
  · rw [if_neg hc] at o; exact o.elim
theorem de_inv (hs : PySem.W.findIn X.K (.ref (He.ga X.K (clsNm c))) "__invert__" = some (some (.ref f))) (hf : PySem.W.isFn X.K (.ref f) = true) (C : CD X.prog X.w X.K X.mg X.base k (.ref f) 1 [] g) (hr : RoomG k X.A) (he : DE X W e x) : DE X W (.UnaryOp .Invert e pos) (e1 (unOwnG c g) x) := de_un (un_inv hs hf C hr) ok_unOwn he
end
/-- the types that == takes at the right -/
def okTy (tt : List String) (cc : List Nat) (y : DV) (μ : List Cel) : Bool := match tyNm y μ with
  | some t => tt.contains t
  | none => (match insC y μ with
    | some c => cc.contains c
    | none => false)
def nfChk (K : Fr) (c : Nat) (tt : List String) (cc : List Nat) : Bool := (tt.all fun t => PySem.W.notFirst K (He.ga K (clsNm c)) (.type t)) && (cc.all fun c' => PySem.W.notFirst K (He.ga K (clsNm c)) (.ref (He.ga K (clsNm c'))) && tyCB K c')
def negB (neg b : Bool) : Bool := if neg then !b else b
def eqOwnG (neg : Bool) (c : Nat) (tt : List String) (cc : List Nat) (g : Gn) : G2 := fun x y μ => if insC x μ = some c ∧ okTy tt cc y μ = true then (noR (g [x, y] μ)).bind fun v μ => (match v with
  | .d (.bl b) => okD (.bl (negB neg b)) μ
  | _ => .stuck) else .stuck
section
variable {X : Cx} {W : WX} {pos : Pos} {e o : Expr} {x xo : EX} {c k : Nat} {f : Addr} {g : Gn} {tt : List String} {cc : List Nat}
theorem ty_looks {pins : List (Addr × Obj)} {σ : St} {F H : Hp} {α : List Addr} {μ : List Cel} {s : Shared} {d : DV} {y : V} {u : Value} (hc : nfChk X.K c tt cc = true) (I : Inv X pins σ H s) (m : Mem X.K F H α μ) (r : RepV X.K F α d y) (ru : RelV y u) (h : okTy tt cc d μ = true) :
    ∃ tb, PySem.W.Looks (model X.prog X.w) s.heap (typeOf u) tb ∧ PySem.W.notFirst X.K (He.ga X.K (clsNm c)) tb = true := by
  obtain ⟨h1, h2⟩ := He.ba hc
  have key : ∀ t, TyX X.K H y t → PySem.W.Looks (model X.prog X.w) s.heap (typeOf u) t := fun t ht => by
    obtain ⟨P, Z, p, _⟩ := kit_of I ru ht
    exact Z.ty _ _ I.kIn p
  unfold okTy at h
  cases q : tyNm d μ with
  | some t =>
    rw [q] at h
    exact ⟨_, key _ (ty_of m r q), List.all_eq_true.mp h1 t (List.contains_iff_mem.mp h)⟩
  | none =>
    rw [q] at h
    simp only at h
    cases q1 : insC d μ with
    | none => rw [q1] at h; cases h
    | some c' =>
      rw [q1] at h
      obtain ⟨a, dx, fv, rfl, ea, _, _⟩ := ins_of m r q1
      obtain ⟨z1, z2⟩ := He.ba (List.all_eq_true.mp h2 c' (List.contains_iff_mem.mp h))
      exact ⟨_, key _ (tyC_ok z2 ea), z1⟩
def rEqOwn (K : Fr) (neg : Bool) (c : Nat) (tt : List String) (cc : List Nat) (g : Gn) : R2 := fun x y H Q => ∃ F α μ d1 d2, Mem K F H α μ ∧ RepV K F α d1 x ∧ RepV K F α d2 y ∧ insC d1 μ = some c ∧ okTy tt cc d2 μ = true ∧ OutOk (RV K) K F α (g [d1, d2] μ) (fun u H' => ∃ b, u = .bl b ∧ Q (.bl (negB neg b)) H') E0
theorem op_eqOwn (hu : X.A.units + 64 < cLine) (hc : nfChk X.K c tt cc = true) (hs : PySem.W.findIn X.K (.ref (He.ga X.K (clsNm c))) "__eq__" = some (some (.ref f))) (hf : PySem.W.isFn X.K (.ref f) = true) (C : CD X.prog X.w X.K X.mg X.base k (.ref f) 2 [] g) (hr : RoomG k X.A) : OpR X (compareOp .Eq) (rEqOwn X.K false c tt cc g) := by
  intro pins s σ H x y v u Q I rx ry h
  obtain ⟨F, α, μ, d1, d2, m, r1, r2, hc1, hc2, o⟩ := h
  obtain ⟨a, dx, fv, rfl, ea, _, _⟩ := ins_of m r1 hc1
  obtain rfl : v = Value.ref a := rx
  obtain ⟨od, J⟩ := ins_at I ea
  obtain ⟨tb, L, hn⟩ := ty_looks hc I m r2 ry hc2
  obtain ⟨mm, hF⟩ := I.fr
  show wpAny _ _ (richCompare .Eq (.ref a) u) _ _ _
  refine PySem.W.cmp_K (op := .Eq) (by omega) hF I.ok.mod.kin J L hn hs hf ?_
  refine wpAny_call (codeAny_mono (C X.A X.stack s H [.ref a, u] [] [.ref a, y] [] _ E0 F α μ [d1, d2] hr I.env0 (.cons rfl (.cons ry .nil)) .nil rfl rfl m ⟨_, _, rfl, r1, _, _, rfl, r2, rfl⟩ o) fun r s' hq => ?_)
  obtain ⟨w, rfl, z, H', I', rz, b, ez, q⟩ := own_end I hq
  subst ez
  exact SlX.cmpback (z := .bl b) rz ⟨.bl b, H', I', rz, q⟩
theorem ok_eqOwn {K : Fr} {neg : Bool} : OpOk K (rEqOwn K neg c tt cc g) (eqOwnG neg c tt cc g) := by
  intro F α μ H d1 d2 x y Q W m r1 r2 o
  unfold eqOwnG at o
  by_cases hc : insC d1 μ = some c ∧ okTy tt cc d2 μ = true
  · rw [if_pos hc] at o
    refine ⟨F, α, μ, d1, d2, m, r1, r2, hc.1, hc.2, ?_⟩
    cases q : g [d1, d2] μ with
    | stuck => rw [q] at o; exact o
    | raise ex μ1 => rw [q] at o; exact o.elim
    | ok v μ1 =>
      rw [q] at o
      intro u F1 α1 H1 g1 m1 rv
      simp only [noR, bind_ok] at o
      split at o
      · cases rv
        exact ⟨_, rfl, o _ F1 α1 H1 g1 m1 rfl⟩
      · exact o.elim
  · rw [if_neg hc] at o; exact o.elim
theorem de_eqOwn (hu : X.A.units + 64 < cLine) (hc : nfChk X.K c tt cc = true) (hs : PySem.W.findIn X.K (.ref (He.ga X.K (clsNm c))) "__eq__" = some (some (.ref f))) (hf : PySem.W.isFn X.K (.ref f) = true) (C : CD X.prog X.w X.K X.mg X.base k (.ref f) 2 [] g) (hr : RoomG k X.A) (he : DE X W e x) (ho : DE X W o xo) :
    DE X W (.Compare e [.Eq] [o] pos) (e2 (eqOwnG false c tt cc g) x xo) := de_cmp (op_eqOwn hu hc hs hf C hr) ok_eqOwn he ho
end
end DL
set_option Elab.async false
set_option linter.all false
set_option maxRecDepth 100000
set_option maxHeartbeats 4000000
namespace DL
open PySem PySem.Spec PyProof.Rows L2
def flatD : Dat → Bool
  | .non => true
  | .bl _ => true
  | .int _ => true
  | .str _ => true
  | _ => false
def itemsD : DV → List Cel → Option (List Dat)
  | .d (.lst ds), _ => some ds
  | .d (.tup ds), _ => some ds
  | .c n, μ => (match μ[n]? with
    | some (.lst ds) => some ds
    | _ => none)
  | _, _ => none
def inD (neg : Bool) : G2 := fun x y μ => match x, itemsD y μ with
  | .d a, some ds => if flatD a = true ∧ ds.all flatD = true then okD (.bl (negB neg (ds.any fun z => eqD z a))) μ else .stuck
  | _, _ => .stuck
def tupIndexD : G2 := fun x y μ => match x, y with
  | .d (.tup ds), .d a => if flatD a = true ∧ ds.all flatD = true ∧ ds.findIdx (fun z => eqD z a) < ds.length then okD (.int (ds.findIdx (fun z => eqD z a) : Nat)) μ else .stuck
  | _, _ => .stuck
def eLt1 (g : G2) (a b : EX) : EX := fun ρ μ => (a ρ μ).bind fun x μ => match x with
  | .d (.tup ds) => if blT ds = true then (b ρ μ).bind fun y μ => g (.d (.tup ds)) y μ else .stuck
  | _ => .stuck
end DL
set_option Elab.async false
set_option linter.all false
set_option maxRecDepth 100000
set_option maxHeartbeats 4000000
namespace DL
open PySem PySem.Spec PyProof.Rows L2
def lenOwnG (c : Nat) (g : Gn) : G1 := fun x μ => if insC x μ = some c then (noR (g [x] μ)).bind fun v μ => (match v with
  | .d (.int n) => if 0 ≤ n ∧ n < 2 ^ 63 then okD (.int n) μ else .stuck
  | _ => .stuck) else .stuck
def reprOwnG (c : Nat) (g : Gn) : G1 := fun x μ => if insC x μ = some c then (noR (g [x] μ)).bind fun v μ => (match v with
  | .d (.str s) => okD (.str s) μ
  | _ => .stuck) else .stuck
section
variable {prog : Program} {w : World} {A : Around} {E : Value → Shared → Prop} {s : Shared} {K : Fr} {x C f : Addr} {ox : Obj} {od : Option Obj}
theorem len_ownK {Q : Value → Shared → Prop} (X : K.In s.heap) (I : PySem.W.InstAt s.heap x ox C od) (hs : PySem.W.findIn K (.ref C) "__len__" = some (some (.ref f))) (hf : PySem.W.isFn K (.ref f) = true)
    (h : wpAny (model prog w) A.in1 (call (.ref f) [.ref x]) (fun r s' => ∃ n u, r = .int n u ∧ 0 ≤ n ∧ n < 2 ^ 63 ∧ Q (.int n s'.toks) { s' with toks := s'.toks + 1 }) E s) : wpAny (model prog w) A (call (.builtin "len") [.ref x]) Q E s := by
  refine Calls.call_function_entry kind_len plain_len entry_len (args_len1 _) ?_
  unfold Builtin.«len»
  refine wpAny_bind (m := oneArg "len" _) (wpAny_pure ?_)
  refine wpAny_bind (PySem.W.special_fn X I hs (beq_iff_eq.mp hf) (wpAny_mono h (fun r s' hr => ?_) fun _ _ y => y))
  obtain ⟨n, u, rfl, h0, h1, hq⟩ := hr
  refine wpAny_bind (wpAny_holding (wpAny_pure ?_))
  refine wpAny_bind (wpAny_letGo ?_)
  show wpAny _ _ (if n < 0 then _ else _) _ _ _
  rw [if_neg (by omega)]
  show wpAny _ _ (if n ≥ 2 ^ 63 then _ else _) _ _ _
  rw [if_neg (by omega)]
  exact wpAny_bind (wpAny_mkInt (wpAny_pure ⟨_, rfl, hq⟩))
theorem repr_ownK {Q : Value → Shared → Prop} (X : K.In s.heap) (I : PySem.W.InstAt s.heap x ox C od) (hs : PySem.W.findIn K (.ref C) "__repr__" = some (some (.ref f))) (hf : PySem.W.isFn K (.ref f) = true) (hu : A.in1.units < cLine)
    (hcall : wpAny (model prog w) A.in1 (call (.ref f) [.ref x]) (fun r s' => ∃ m tk, r = .str m tk ∧ Q (.str m tk) s') E s) : wpAny (model prog w) A (call (.builtin "repr") [.ref x]) Q E s := by
  refine Calls.call_function_entry F.kind_repr F.plain_repr F.entry_repr (F.args_repr1 _) ?_
  unfold Builtin.«repr»
  refine wpAny_bind (m := oneArg "repr" _) (wpAny_pure ?_)
  refine wpAny_bind (wpAny_cRoomFor hu ?_)
  refine wpAny_bind (wpAny_bind (I.type.here ((PySem.W.looks_findIn X hs).here ?_)))
  show wpAny _ _ (if (some (Value.ref f)).isNone = true then _ else _) _ _ _
  rw [if_neg (by simp)]
  refine wpAny_bind (m := callSpecialIfBound? (.ref x) (Str.ofString "__repr__") _) (PySem.W.ifBound_K X I hs hf (wpAny_mono hcall (fun r s' hr => ?_) fun _ _ y => y))
  obtain ⟨m, tk, rfl, hq⟩ := hr
  refine wpAny_bind (wpAny_isInstance (typeIs_str _ _ _) isSubtype_str_str ?_)
  first
    | exact wpAny_pure ⟨_, rfl, hq⟩
    | (rw [if_pos rfl]; exact wpAny_pure ⟨_, rfl, hq⟩)
    | (simp only [if_true]; exact wpAny_pure ⟨_, rfl, hq⟩)
end
section
variable {X : Cx} {W : WX} {p pos : Pos} {e : Expr} {x : EX} {c k : Nat} {f : Addr} {g : Gn}
def rLenOwn (K : Fr) (c : Nat) (g : Gn) : List V → Hp → VK → Prop := fun xs H Q => ∃ F α μ d x, xs = [x] ∧ Mem K F H α μ ∧ RepV K F α d x ∧ insC d μ = some c ∧ OutOk (RV K) K F α (g [d] μ) (fun u H' => ∃ n, u = .int n ∧ 0 ≤ n ∧ n < 2 ^ 63 ∧ Q (.int n) H') E0
theorem call_lenOwn (hs : PySem.W.findIn X.K (.ref (He.ga X.K (clsNm c))) "__len__" = some (some (.ref f))) (hf : PySem.W.isFn X.K (.ref f) = true) (C : CD X.prog X.w X.K X.mg X.base k (.ref f) 1 [] g) (hr : RoomG (k + 1) X.A) : CallR X (.builtin "len") (rLenOwn X.K c g) := by
  intro pins s σ H xs us Q I r h
  obtain ⟨F, α, μ, d, x, rfl, m, r1, hc, o⟩ := h
  obtain ⟨a, dx, fv, rfl, ea, _, _⟩ := ins_of m r1 hc
  obtain ⟨u, rfl, ru⟩ := r.one
  obtain rfl : u = Value.ref a := ru
  obtain ⟨od, J⟩ := ins_at I ea
  refine len_ownK I.kIn J hs hf ?_
  refine wpAny_call (codeAny_mono (C X.A.in1 X.stack s H [.ref a] [] [.ref a] [] _ E0 F α μ [d] hr.in1 I.env0.in1 (.cons rfl .nil) .nil rfl rfl m ⟨_, _, rfl, r1, rfl⟩ o) fun r s' hq => ?_)
  obtain ⟨w, rfl, z, H', I', rz, n, ez, h0, h1, q⟩ := own_end I hq
  subst ez
  obtain ⟨t, rfl⟩ := (show ∃ t, w = Value.int n t from rz)
  exact ⟨n, t, rfl, h0, h1, .int n, H', I'.tok _, ⟨_, rfl⟩, q⟩
theorem ok_lenOwn {K : Fr} {F H : Hp} {α : List Addr} {μ : List Cel} {d : DV} {x : V} {Q : VK} {W : XK} (m : Mem K F H α μ) (r : RepV K F α d x) (o : OutOk (RV K) K F α (lenOwnG c g d μ) Q W) : rLenOwn K c g [x] H Q := by
  unfold lenOwnG at o
  by_cases hc : insC d μ = some c
  · rw [if_pos hc] at o
    refine ⟨F, α, μ, d, x, rfl, m, r, hc, ?_⟩
    cases q : g [d] μ with
    | stuck => rw [q] at o; exact o
    | raise ex μ1 => rw [q] at o; exact o.elim
    | ok v μ1 =>
      rw [q] at o
      intro u F1 α1 H1 g1 m1 rv
      simp only [noR, bind_ok] at o
      split at o
      · cases rv
        split at o
        · rename_i hn
          exact ⟨_, rfl, hn.1, hn.2, o _ F1 α1 H1 g1 m1 rfl⟩
        · exact o.elim
      · exact o.elim
  · rw [if_neg hc] at o; exact o.elim
theorem de_lenOwn (hg : Gl X "len") (hm : X.mg "len" = none) (hs : PySem.W.findIn X.K (.ref (He.ga X.K (clsNm c))) "__len__" = some (some (.ref f))) (hf : PySem.W.isFn X.K (.ref f) = true) (C : CD X.prog X.w X.K X.mg X.base k (.ref f) 1 [] g) (hr : RoomG (k + 1) X.A) (he : DE X W e x)
    (hst : starEach [e] X.env = (false, eval e X.env) :: starEach [] X.env := by rfl) (hpl : (backTo pos (starEach [] X.env)).any (·.1) = false := by rfl) : DE X W (.Call (.Name "len" p) [e] [] pos) (e1 (lenOwnG c g) x) := by
  refine ⟨PE.of (pe_callB (call_lenOwn hs hf C hr) hg hm boot_len (pa_cons he.pe pa_nil hst) (by decide) (by decide) hst hpl) fun σ H Q h => ?_⟩
  exact tX_bind (f := fun _ x μ => lenOwnG c g x μ) h fun F α ρ μ v u H1 m s rv o => ok_lenOwn m rv o
def rReprOwn (K : Fr) (c : Nat) (g : Gn) : List V → Hp → VK → Prop := fun xs H Q => ∃ F α μ d x, xs = [x] ∧ Mem K F H α μ ∧ RepV K F α d x ∧ insC d μ = some c ∧ OutOk (RV K) K F α (g [d] μ) (fun u H' => ∃ n, u = .str n ∧ Q (.str n) H') E0
theorem call_reprOwn (hu : X.A.units + 64 < cLine) (hs : PySem.W.findIn X.K (.ref (He.ga X.K (clsNm c))) "__repr__" = some (some (.ref f))) (hf : PySem.W.isFn X.K (.ref f) = true) (C : CD X.prog X.w X.K X.mg X.base k (.ref f) 1 [] g) (hr : RoomG (k + 1) X.A) : CallR X (.builtin "repr") (rReprOwn X.K c g) := by
  intro pins s σ H xs us Q I r h
  obtain ⟨F, α, μ, d, x, rfl, m, r1, hc, o⟩ := h
  obtain ⟨a, dx, fv, rfl, ea, _, _⟩ := ins_of m r1 hc
  obtain ⟨u, rfl, ru⟩ := r.one
  obtain rfl : u = Value.ref a := ru
  obtain ⟨od, J⟩ := ins_at I ea
  refine repr_ownK I.kIn J hs hf (by show X.A.units + 1 < cLine; omega) ?_
  refine wpAny_call (codeAny_mono (C X.A.in1 X.stack s H [.ref a] [] [.ref a] [] _ E0 F α μ [d] hr.in1 I.env0.in1 (.cons rfl .nil) .nil rfl rfl m ⟨_, _, rfl, r1, rfl⟩ o) fun r s' hq => ?_)
  obtain ⟨w, rfl, z, H', I', rz, n, ez, q⟩ := own_end I hq
  subst ez
  obtain ⟨t, rfl⟩ := (show ∃ t, w = Value.str n t from rz)
  exact ⟨n, t, rfl, .str n, H', I', ⟨_, rfl⟩, q⟩
theorem ok_reprOwn {K : Fr} {F H : Hp} {α : List Addr} {μ : List Cel} {d : DV} {x : V} {Q : VK} {W : XK} (m : Mem K F H α μ) (r : RepV K F α d x) (o : OutOk (RV K) K F α (reprOwnG c g d μ) Q W) : rReprOwn K c g [x] H Q := by
  unfold reprOwnG at o
  by_cases hc : insC d μ = some c
  · rw [if_pos hc] at o
    refine ⟨F, α, μ, d, x, rfl, m, r, hc, ?_⟩
    cases q : g [d] μ with
    | stuck => rw [q] at o; exact o
    | raise ex μ1 => rw [q] at o; exact o.elim
    | ok v μ1 =>
      rw [q] at o
      intro u F1 α1 H1 g1 m1 rv
      simp only [noR, bind_ok] at o
      split at o
      · obtain ⟨hl, rfl⟩ := rv
        exact ⟨_, rfl, o _ F1 α1 H1 g1 m1 ⟨hl, rfl⟩⟩
      · exact o.elim
  · rw [if_neg hc] at o; exact o.elim
theorem de_reprOwn (hg : Gl X "repr") (hm : X.mg "repr" = none) (hs : PySem.W.findIn X.K (.ref (He.ga X.K (clsNm c))) "__repr__" = some (some (.ref f))) (hf : PySem.W.isFn X.K (.ref f) = true) (C : CD X.prog X.w X.K X.mg X.base k (.ref f) 1 [] g) (hr : RoomG (k + 1) X.A) (he : DE X W e x)
    (hst : starEach [e] X.env = (false, eval e X.env) :: starEach [] X.env := by rfl) (hpl : (backTo pos (starEach [] X.env)).any (·.1) = false := by rfl) : DE X W (.Call (.Name "repr" p) [e] [] pos) (e1 (reprOwnG c g) x) := by
  refine ⟨PE.of (pe_callB (call_reprOwn hr.r.units hs hf C hr) hg hm (by decide +kernel) (pa_cons he.pe pa_nil hst) (by decide) (by decide) hst hpl) fun σ H Q h => ?_⟩
  exact tX_bind (f := fun _ x μ => reprOwnG c g x μ) h fun F α ρ μ v u H1 m s rv o => ok_reprOwn m rv o
end
def intS (i : Int) : List Nat := (Str.ofString (toString i)).cps.toList
def fmtG : G1 := fun x μ => match x with
  | .d (.str s) => okD (.str s) μ
  | .d (.int i) => if i.natAbs.log2 < 1920 ∧ (intS i).length ≤ LIM then okD (.str (intS i)) μ else .stuck
  | _ => .stuck
def jsG : List EX → List Nat → EX
  | [], acc => fun _ μ => okD (.str acc) μ
  | x :: xs, acc => fun ρ μ => (x ρ μ).bind fun v μ => match v with
    | .d (.str s) => if acc.length + s.length ≤ LIM then jsG xs (acc ++ s) ρ μ else .stuck
    | _ => .stuck
theorem sV_of (s : Str) : sV s.cps.toList = s := by
  unfold sV
  simp
section
variable {X : Cx} {W : WX} {pos : Pos} {e : Expr} {x : EX}
theorem de_fmt (he : DE X W e x) : DE X W (.FormattedValue e (-1) none pos) (e1 fmtG x) := by
  refine ⟨PE.of (pe_fmt he.pe) fun σ H Q h => ?_⟩
  refine tX_bind (f := fun _ x μ => fmtG x μ) h fun F α ρ μ v u H1 m s rv o => ?_
  unfold fmtG at o
  split at o
  · obtain ⟨hl, rfl⟩ := rv
    exact .inl ⟨_, rfl, by rw [sV_len]; exact lim_line hl, outD (v := .str _) m ⟨hl, rfl⟩ o⟩
  · cases rv
    split at o
    · rename_i hc
      refine .inr ⟨_, rfl, hc.1, ?_⟩
      have z := outD (v := .str (intS _)) m ⟨hc.2, rfl⟩ o
      unfold intS at z
      rw [sV_of] at z
      exact z
    · exact o.elim
  · exact o.elim
structure DJ (X : Cx) (W : WX) (es : List Expr) (xs : List EX) : Prop where
  pj : PJ X es (xs.map (tD X.K W))
theorem dj_nil : DJ X W [] [] := ⟨.nil⟩
theorem dj_cons {es : List Expr} {xs : List EX} (h : DE X W e x) (r : DJ X W es xs) : DJ X W (e :: es) (x :: xs) := ⟨.cons h.pe r.pj⟩
theorem js_of {σ : St} {Q : VK} : ∀ (xs : List EX) (acc : List Nat) (H : Hp), acc.length ≤ LIM → tD X.K W (jsG xs acc) σ H Q → tJs (xs.map (tD X.K W)) (sV acc) σ H fun out H1 => Q (.str out) H1
  | [], acc, H, hz, ⟨F, α, ρ, μ, m, s, o⟩ => outD (v := .str acc) m ⟨hz, rfl⟩ o
  | x :: xs, acc, H, hz, h => by
    refine tX_bind (f := fun ρ v μ => match v with
      | .d (.str s) => if acc.length + s.length ≤ LIM then jsG xs (acc ++ s) ρ μ else .stuck
      | _ => .stuck) h fun F α ρ μ v u H1 m s rv o => ?_
    split at o
    · rename_i st
      obtain ⟨hl, rfl⟩ := rv
      split at o
      · rename_i hc
        have hz2 : (acc ++ st).length ≤ LIM := by rw [List.length_append]; exact hc
        refine ⟨_, rfl, ?_, ?_⟩
        · rw [sV_app, sV_len]; exact lim_line hz2
        · rw [sV_app]
          exact js_of xs (acc ++ st) H1 hz2 ⟨F, α, ρ, μ, m, s, o⟩
      · exact o.elim
    · exact o.elim
theorem de_joined {v1 v2 : Expr} {rest : List Expr} {xs : List EX} (h : DJ X W (v1 :: v2 :: rest) xs) : DE X W (.JoinedStr (v1 :: v2 :: rest) pos) (jsG xs []) := by
  refine ⟨PE.of (pe_joined h.pj) fun σ H Q hh => ?_⟩
  exact js_of xs [] H (Nat.zero_le _) hh
end
end DL
set_option Elab.async false
set_option linter.all false
set_option maxRecDepth 100000
set_option maxHeartbeats 4000000
namespace DL
open PySem PySem.Spec PyProof.Rows L2
section
variable {X : Cx} {W : WX} {p pos apos : Pos} {e : Expr} {x : EX} {g : Gn}
def eMethC0 (k : Nat) (g : Gn) (a : EX) : EX := fun ρ μ => (a ρ μ).bind fun x μ => if insC x μ = some k then g [.d (.cls k)] μ else .stuck
end
@[simp] theorem we_methC0 {c : Nat} {g : Gn} {x : EX} {ρ : Rho} {μ : List Cel} {Q : DV → List Cel → Prop} {X : Exn → List Cel → Prop} : WE (eMethC0 c g x ρ μ) Q X = WE (x ρ μ) (fun v μ => insC v μ = some c ∧ WE (g [.d (.cls c)] μ) Q X) X := by
  unfold eMethC0
  rw [we_bind]
  congr 1
  funext v μ
  by_cases h : insC v μ = some c
  · rw [if_pos h]; simp [h]
  · rw [if_neg h]; simp [h]
end DL
set_option Elab.async false
set_option linter.all false
set_option maxRecDepth 100000
set_option maxHeartbeats 4000000
namespace DL
open PySem PySem.Spec PyProof.Rows L2
def getOwnG (c : Nat) (g : Gn) : G2 := fun x y μ => if insC x μ = some c then noR (g [x, y] μ) else .stuck
end DL
set_option Elab.async false
set_option linter.all false
set_option maxRecDepth 100000
set_option maxHeartbeats 4000000
namespace DL
open PySem PySem.Spec PyProof.Rows L2
/-- a, .., *b = t: n targets ahead of the star's -/
def gTS (n : Nat) (gs : GXs) : GX := fun v ρ μ => match v with
  | .d (.tup ds) => if n ≤ ds.length ∧ ds.length ≤ 16384 then gs (ds.take n ++ [.lst (ds.drop n)]) ρ μ else .stuck
  | _ => .stuck
end DL
set_option Elab.async false
set_option linter.all false
set_option maxRecDepth 100000
set_option maxHeartbeats 4000000
namespace PySem
open PySem.Sem (wp)
end PySem
namespace DL
open PySem PySem.Spec PyProof.Rows L2
def boolOwnG (c : Nat) : G1 := fun x μ => if insC x μ = some c then okD (.bl true) μ else .stuck
def strG : G1 := fun x μ => match x with
  | .d (.int i) => if i.natAbs.log2 < 1920 ∧ (intS i).length ≤ LIM then okD (.str (intS i)) μ else .stuck
  | _ => .stuck
section
variable {X : Cx} {W : WX} {p pos : Pos} {e : Expr} {x : EX} {c : Nat}
theorem ok_strI {K : Fr} {F H : Hp} {α : List Addr} {μ : List Cel} {d : DV} {x : V} {Q : VK} {W : XK} (m : Mem K F H α μ) (r : RepV K F α d x) (o : OutOk (RV K) K F α (strG d μ) Q W) : ∃ i, [x] = [V.int i] ∧ i.natAbs.log2 < 1920 ∧ Q (.str (toString i)) H := by
  unfold strG at o
  split at o
  · cases r
    split at o
    · rename_i hc
      have z := outD (v := .str (intS _)) m ⟨hc.2, rfl⟩ o
      unfold intS at z
      rw [sV_of] at z
      exact ⟨_, rfl, hc.1, z⟩
    · exact o.elim
  · exact o.elim
theorem de_strI (hg : Gl X "str") (hm : X.mg "str" = none) (he : DE X W e x)
    (hst : starEach [e] X.env = (false, eval e X.env) :: starEach [] X.env := by rfl) (hpl : (backTo pos (starEach [] X.env)).any (·.1) = false := by rfl) : DE X W (.Call (.Name "str" p) [e] [] pos) (e1 strG x) := by
  refine ⟨PE.of (pe_callTy call_str_int hg hm (by decide +kernel) (pa_cons he.pe pa_nil hst) (by decide) (by decide) hst hpl) fun σ H Q h => ?_⟩
  exact tX_bind (f := fun _ x μ => strG x μ) h fun F α ρ μ v u H1 m s rv o => ok_strI m rv o
end
end DL
set_option Elab.async false
set_option linter.all false
set_option maxRecDepth 100000
set_option maxHeartbeats 4000000
namespace DL
open PySem PySem.Spec PyProof.Rows L2
section
variable {X : Exn → List Cel → Prop} {ρ : Rho} {μ : List Cel} {a b : EX} {Q : List Dat → List Cel → Prop}
@[simp] theorem we_ofS {o : Option (List Dat)} : WE (ofS o μ) Q X = ∃ ds, o = some ds ∧ Q ds μ := by cases o <;> simp [ofS]
@[simp] theorem we_iSeq : WE (iSeq a ρ μ) Q X = WE (a ρ μ) (fun v μ => ∃ ds, seqIt v = some ds ∧ Q ds μ) X := by
  unfold iSeq
  rw [we_bind]
  simp only [we_ofS]
@[simp] theorem we_iEnum : WE (iEnumX a ρ μ) Q X = WE (a ρ μ) (fun v μ => ∃ ds, tupIt v = some ds ∧ Q (enumD 0 ds) μ) X := by
  unfold iEnumX
  rw [we_bind]
  congr 1
  funext v μ
  cases tupIt v <;> simp
@[simp] theorem we_iRange1 : WE (iRange1 a ρ μ) Q X = WE (a ρ μ) (fun v μ => ∃ ds, rng1 v = some ds ∧ Q ds μ) X := by
  unfold iRange1
  rw [we_bind]
  simp only [we_ofS]
@[simp] theorem we_iRange2 : WE (iRange2 a b ρ μ) Q X = WE (a ρ μ) (fun v μ => WE (b ρ μ) (fun w μ => ∃ ds, rng2 v w = some ds ∧ Q ds μ) X) X := by
  unfold iRange2
  rw [we_bind]
  congr 1
  funext v μ
  rw [we_bind]
  simp only [we_ofS]
@[simp] theorem we_iZip2 : WE (iZip2 a b ρ μ) Q X = WE (a ρ μ) (fun v μ => WE (b ρ μ) (fun w μ => ∃ ds, zip2 v w = some ds ∧ Q ds μ) X) X := by
  unfold iZip2
  rw [we_bind]
  congr 1
  funext v μ
  rw [we_bind]
  simp only [we_ofS]
end
section
variable {N : Rho → List Cel → Prop} {R : DV → List Cel → Prop} {X : Exn → Rho → List Cel → Prop} {b : SX} {g : GX} {ρ : Rho} {μ : List Cel}
/-- a for loop by its invariant: I of the items done -/
theorem ws_forI {β : Type} (enc : β → Dat) (I : List β → Rho → List Cel → Prop) (xs : List β) (h0 : I [] ρ μ)
    (hs : ∀ pre x post ρ μ, xs = pre ++ x :: post → I pre ρ μ → WS (g (.d (enc x)) ρ μ) (fun ρ μ => WS (b ρ μ) (fun ρ μ => I (pre ++ [x]) ρ μ) R X) R X)
    (he : ∀ ρ μ, I xs ρ μ → N ρ μ) : WS (forL g b (xs.map enc) ρ μ) N R X := by
  have key : ∀ (post pre : List β) (ρ : Rho) (μ : List Cel), xs = pre ++ post → I pre ρ μ → WS (forL g b (post.map enc) ρ μ) N R X := by
    intro post
    induction post with
    | nil =>
      intro pre ρ μ e i
      rw [List.append_nil] at e
      subst e
      exact he _ _ i
    | cons x post ih =>
      intro pre ρ μ e i
      show WS (((g (.d (enc x)) ρ μ).bind b).bind (forL g b (post.map enc))) N R X
      rw [ws_bind, ws_bind]
      have z := hs pre x post ρ μ e i
      have step : ∀ (o : SOut), WS o (fun ρ μ => WS (b ρ μ) (fun ρ μ => I (pre ++ [x]) ρ μ) R X) R X → WS o (fun ρ μ => WS (b ρ μ) (fun ρ μ => WS (forL g b (post.map enc) ρ μ) N R X) R X) R X := fun o ho =>
        ho.mono (fun ρ1 μ1 h1 => h1.mono (fun ρ2 μ2 h2 => ih (pre ++ [x]) ρ2 μ2 (by rw [e]; simp) h2) fun _ _ h => h) fun _ _ h => h
      exact step _ z
  exact key xs [] ρ μ rfl h0
end
inductive All2 {β γ : Type} (F : β → γ → Prop) : List β → List γ → Prop where
  | nil : All2 F [] []
  | cons {x : β} {y : γ} {xs : List β} {ys : List γ} (h : F x y) (t : All2 F xs ys) : All2 F (x :: xs) (y :: ys)
section
variable {X : Exn → List Cel → Prop} {own : List Nat} {it : IX} {g : GX} {t : TX} {e : EX} {ρ : Rho} {μ : List Cel} {Q : DV → List Cel → Prop}
/-- a turn of a comprehension -/
def lcTurn (g : GX) (t : TX) (e : EX) (d : Dat) (ρ : Rho) (M : List Cel) (P : Option Dat → List Cel → Prop) : Prop :=
  WS (g (.d d) ρ M) (fun ρ1 _ => WE (t ρ1 M) (fun b M1 => if b = true then WE (e ρ1 M1) (fun v M2 => ∃ y, v = .d y ∧ P (some y) M2) X0 else P none M1) X0) (fun _ _ => False) XS
/-- how memory goes on: I what holds, S from ahead to behind -/
structure Frm (I : List Cel → Prop) (S : List Cel → List Cel → Prop) : Prop where
  refl : ∀ μ, I μ → S μ μ
  trans : ∀ μ μ1 μ2, S μ μ1 → S μ1 μ2 → S μ μ2
  inv : ∀ μ μ1, I μ → S μ μ1 → I μ1
  len : ∀ μ μ1, S μ μ1 → μ1.length = μ.length
  app : ∀ μ ds, I μ → I (μ ++ [.lst ds])
  unapp : ∀ μ ds μ1, I μ → S (μ ++ [.lst ds]) μ1 → ∃ μ2, μ1 = μ2 ++ [.lst ds] ∧ S μ μ2
  clo : ∀ μ, I μ → Clo μ
theorem frm_eq : Frm Clo (fun μ μ1 => μ1 = μ) := ⟨fun _ _ => rfl, fun _ _ _ a b => by rw [b, a], fun _ _ i e => by rw [e]; exact i, fun _ _ e => by rw [e], fun _ _ i => i.app _, fun μ ds μ1 _ e => ⟨μ, e, rfl⟩, fun _ i => i⟩
/-- a comprehension: F x y says that the item x gives y -/
theorem we_lcF {I : List Cel → Prop} {S : List Cel → List Cel → Prop} (fr : Frm I S) {β : Type} (enc : β → Dat) (F : β → Option Dat → Prop) (xs : List β) (hl : xs.length ≤ LIM)
    (hit : WE (it ρ μ) (fun ds μ1 => ds = xs.map enc ∧ I μ1 ∧ ∀ ys μ2, All2 F xs ys → S μ1 μ2 → Q (.d (.lst (ys.filterMap id))) μ2) X)
    (h : ∀ x ∈ xs, ∀ M, I M → lcTurn g t e (enc x) (wipeR ρ own) M (fun o M' => F x o ∧ S M M')) : WE (eLc own it g t e ρ μ) Q X := by
  unfold eLc
  rw [we_bind]
  refine hit.imp fun ds μ1 hq => ?_
  obtain ⟨rfl, i1, q⟩ := hq
  have key : ∀ (l : List β) (M : List Cel) (acc : List Dat), (∀ d ∈ l, d ∈ xs) → acc.length + l.length ≤ LIM → I M → M.length = μ1.length → ∃ ys M2, compL μ1.length (wipeR ρ own) g t e (l.map enc) (M ++ [.lst acc]) = .ok () (M2 ++ [.lst (acc ++ ys.filterMap id)]) ∧ All2 F l ys ∧ S M M2 := by
    intro l
    induction l with
    | nil => intro M acc _ _ hp _; exact ⟨[], M, by simp [compL], .nil, fr.refl _ hp⟩
    | cons d l ih =>
      intro M acc hm hz hp hM
      have hz' : acc.length < LIM := by simp only [List.length_cons] at hz; exact Nat.lt_of_lt_of_le (Nat.lt_add_of_pos_right (Nat.succ_pos _)) hz
      have z := h d (hm d (by simp)) (M ++ [.lst acc]) (fr.app _ _ hp)
      unfold lcTurn at z
      cases hg : g (.d (enc d)) (wipeR ρ own) (M ++ [.lst acc]) with
      | rt _ _ => rw [hg] at z; exact z.elim
      | raise _ _ _ => rw [hg] at z; exact z.elim
      | stuck => rw [hg] at z; exact z.elim
      | nx ρ1 μx =>
        rw [hg, ws_nx] at z
        cases ht : t ρ1 (M ++ [.lst acc]) with
        | raise _ _ => rw [ht] at z; exact z.elim
        | stuck => rw [ht] at z; exact z.elim
        | ok bb M1 =>
          rw [ht, we_ok] at z
          cases bb with
          | false =>
            simp only [Bool.false_eq_true, if_false] at z
            obtain ⟨f1, s1⟩ := z
            obtain ⟨M', e', s2⟩ := fr.unapp _ _ _ hp s1
            subst e'
            have hM' : M'.length = μ1.length := by rw [fr.len _ _ s2, hM]
            obtain ⟨ys, M2, k1, k2, k3⟩ := ih M' acc (fun d' hd => hm d' (by simp [hd])) (by simp at hz ⊢; omega) (fr.inv _ _ hp s2) hM'
            refine ⟨none :: ys, M2, ?_, .cons f1 k2, fr.trans _ _ _ s2 k3⟩
            rw [List.map_cons]
            unfold compL
            rw [hg]
            simp only [ht, k1]
            simp
          | true =>
            simp only [if_true] at z
            obtain ⟨v, M3, he, y, rfl, f1, s1⟩ := z.ex
            obtain ⟨M', e', s2⟩ := fr.unapp _ _ _ hp s1
            subst e'
            have hM' : M'.length = μ1.length := by rw [fr.len _ _ s2, hM]
            obtain ⟨ys, M2, k1, k2, k3⟩ := ih M' (acc ++ [y]) (fun d' hd => hm d' (by simp [hd])) (by simp at hz ⊢; omega) (fr.inv _ _ hp s2) hM'
            refine ⟨some y :: ys, M2, ?_, .cons f1 k2, fr.trans _ _ _ s2 k3⟩
            have g1 : (M' ++ [Cel.lst acc])[μ1.length]? = some (.lst acc) := by rw [← hM']; simp
            have g2 : (M' ++ [Cel.lst acc]).set μ1.length (.lst (acc ++ [y])) = M' ++ [.lst (acc ++ [y])] := by rw [← hM']; simp
            rw [List.map_cons]
            unfold compL
            rw [hg]
            simp only [ht, he]
            rw [g1]
            simp only [if_pos hz', g2, k1]
            simp
  obtain ⟨ys, M2, k1, k2, k3⟩ := key xs μ1 [] (fun _ h => h) (by simpa using hl) i1 rfl
  have g1 : (M2 ++ [Cel.lst ([] ++ ys.filterMap id)])[μ1.length]? = some (.lst ([] ++ ys.filterMap id)) := by rw [← fr.len _ _ k3]; simp
  have g2 : (M2 ++ [Cel.lst ([] ++ ys.filterMap id)]).set μ1.length .dead = M2 ++ [.dead] := by rw [← fr.len _ _ k3]; simp
  rw [k1]
  unfold compE
  simp only [g1, g2]
  rw [we_ok, ← fr.len _ _ k3, cutM_app (fr.clo _ (fr.inv _ _ i1 k3))]
  simpa using q ys M2 k2 k3
theorem forall2_opt {β : Type} {p : β → Bool} {f : β → Dat} : ∀ {xs : List β} {ys : List (Option Dat)}, All2 (fun x o => o = if p x then some (f x) else none) xs ys → ys.filterMap id = (xs.filter p).map f
  | [], _, .nil => rfl
  | x :: xs, _, .cons h t => by
    have ih := forall2_opt t
    subst h
    by_cases hp : p x = true
    · simp [hp, ih]
    · simp [hp, ih]
/-- a comprehension without effects -/
theorem we_lcP {β : Type} (enc : β → Dat) (p : β → Bool) (f : β → Dat) (xs : List β) (hl : xs.length ≤ LIM)
    (hit : WE (it ρ μ) (fun ds μ1 => ds = xs.map enc ∧ Clo μ1 ∧ Q (.d (.lst ((xs.filter p).map f))) μ1) X)
    (h : ∀ x ∈ xs, ∀ M, Clo M → lcTurn g t e (enc x) (wipeR ρ own) M (fun o M' => M' = M ∧ o = if p x = true then some (f x) else none)) : WE (eLc own it g t e ρ μ) Q X := by
  refine we_lcF frm_eq enc (fun x o => o = if p x = true then some (f x) else none) xs hl (hit.imp fun ds μ1 ⟨h1, h2, h3⟩ => ⟨h1, h2, fun ys μ2 k1 k2 => ?_⟩) fun x hx M hM => ?_
  · subst k2
    rw [forall2_opt k1]
    exact h3
  · have z := h x hx M hM
    unfold lcTurn at z ⊢
    refine WS.mono z (fun ρ1 μ1 h1 => h1.imp fun b M1 h2 => ?_) fun _ _ h => h
    cases b with
    | true => exact WE.imp h2 fun v M2 ⟨y, e1, e2, e3⟩ => ⟨y, e1, e3, e2⟩
    | false => exact ⟨h2.2, h2.1⟩
/-- .. every item goes in -/
theorem we_lcM {β : Type} (enc : β → Dat) (f : β → Dat) (xs : List β) (hl : xs.length ≤ LIM)
    (hit : WE (it ρ μ) (fun ds μ1 => ds = xs.map enc ∧ Clo μ1 ∧ Q (.d (.lst (xs.map f))) μ1) X)
    (h : ∀ x ∈ xs, ∀ M, Clo M → WS (g (.d (enc x)) (wipeR ρ own) M) (fun ρ1 _ => WE (e ρ1 M) (fun v M' => M' = M ∧ v = .d (f x)) X0) (fun _ _ => False) XS) : WE (eLc own it g tTrue e ρ μ) Q X := by
  have ef : xs.filter (fun _ => true) = xs := List.filter_eq_self.mpr (by simp)
  refine we_lcP enc (fun _ => true) f xs hl (by rw [ef]; exact hit) fun x hx M hM => ?_
  unfold lcTurn
  refine WS.mono (h x hx M hM) (fun ρ1 μ1 h1 => ?_) fun _ _ h => h
  show WE (e ρ1 M) _ X0
  exact h1.imp fun v M' ⟨e1, e2⟩ => ⟨f x, e2, e1, by simp⟩
end
def flatC : Cel → Bool
  | .ins _ _ => false
  | .lv _ => false
  | _ => true
theorem Clo.apps {μ : List Cel} (h : Clo μ) (t : List Cel) (ht : t.all flatC = true) : Clo (μ ++ t) := by
  unfold Clo at h ⊢
  rw [List.all_append, Bool.and_eq_true]
  refine ⟨List.all_eq_true.mpr fun c hc => celLt_le (by simp) c (List.all_eq_true.mp h c hc), List.all_eq_true.mpr fun c hc => ?_⟩
  have := List.all_eq_true.mp ht c hc
  cases c with
  | ins _ _ => cases this
  | lv _ => cases this
  | _ => rfl
/-- a comprehension whose turns leave cells behind: they are dropped at its end -/
theorem we_lcG {X : Exn → List Cel → Prop} {own : List Nat} {it : IX} {g : GX} {e : EX} {ρ : Rho} {μ : List Cel} {Q : DV → List Cel → Prop} {β : Type} (enc : β → Dat) (P : Dat → Prop) (xs : List β) (hl : xs.length ≤ LIM)
    (hit : WE (it ρ μ) (fun ds μ1 => ds = xs.map enc ∧ Clo μ1 ∧ ∀ ys, ys.length = xs.length → (∀ y ∈ ys, P y) → Q (.d (.lst ys)) μ1) X)
    (h : ∀ x ∈ xs, ∀ M, Clo M → WS (g (.d (enc x)) (wipeR ρ own) M) (fun ρ1 _ => WE (e ρ1 M) (fun v M' => ∃ y t, v = .d y ∧ P y ∧ M' = M ++ t ∧ t.all flatC = true) X0) (fun _ _ => False) XS) : WE (eLc own it g tTrue e ρ μ) Q X := by
  unfold eLc
  rw [we_bind]
  refine hit.imp fun ds μ1 hq => ?_
  obtain ⟨rfl, c1, q⟩ := hq
  have key : ∀ (l : List β) (t : List Cel) (acc : List Dat), (∀ d ∈ l, d ∈ xs) → acc.length + l.length ≤ LIM → t.all flatC = true → ∃ ys t2, compL μ1.length (wipeR ρ own) g tTrue e (l.map enc) (μ1 ++ .lst acc :: t) = .ok () (μ1 ++ .lst (acc ++ ys) :: t2) ∧ ys.length = l.length ∧ ∀ y ∈ ys, P y := by
    intro l
    induction l with
    | nil => intro t acc _ _ _; exact ⟨[], t, by simp [compL], rfl, fun y hy => by simp at hy⟩
    | cons d l ih =>
      intro t acc hm hz ht
      have hz' : acc.length < LIM := by simp only [List.length_cons] at hz; exact Nat.lt_of_lt_of_le (Nat.lt_add_of_pos_right (Nat.succ_pos _)) hz
      have z := h d (hm d (by simp)) (μ1 ++ .lst acc :: t) (c1.apps _ (by simpa [flatC] using ht))
      cases hg : g (.d (enc d)) (wipeR ρ own) (μ1 ++ .lst acc :: t) with
      | rt _ _ => rw [hg] at z; exact z.elim
      | raise _ _ _ => rw [hg] at z; exact z.elim
      | stuck => rw [hg] at z; exact z.elim
      | nx ρ1 μx =>
        rw [hg, ws_nx] at z
        obtain ⟨v, M3, he, y, t', rfl, py, rfl, ht'⟩ := z.ex
        obtain ⟨ys, t2, k1, k2, k3⟩ := ih (t ++ t') (acc ++ [y]) (fun d' hd => hm d' (by simp [hd])) (by simp at hz ⊢; omega) (by rw [List.all_append, ht, ht']; rfl)
        refine ⟨y :: ys, t2, ?_, by simp [k2], fun w hw => by
          rcases List.mem_cons.mp hw with rfl | hw
          · exact py
          · exact k3 w hw⟩
        have g1 : (μ1 ++ Cel.lst acc :: t ++ t')[μ1.length]? = some (.lst acc) := by simp
        have g2 : (μ1 ++ Cel.lst acc :: t ++ t').set μ1.length (.lst (acc ++ [y])) = μ1 ++ .lst (acc ++ [y]) :: (t ++ t') := by simp
        rw [List.map_cons]
        unfold compL
        rw [hg]
        simp only [tTrue, he]
        rw [g1]
        simp only [if_pos hz', g2, k1]
        simp
  obtain ⟨ys, t2, k1, k2, k3⟩ := key xs [] [] (fun _ h => h) (by simpa using hl) rfl
  rw [k1]
  unfold compE
  have g1 : (μ1 ++ Cel.lst ([] ++ ys) :: t2)[μ1.length]? = some (.lst ([] ++ ys)) := by simp
  have g2 : (μ1 ++ Cel.lst ([] ++ ys) :: t2).set μ1.length .dead = μ1 ++ (.dead :: t2) := by simp
  simp only [g1, g2]
  rw [we_ok, cutM_app c1]
  simpa using q ys k2 k3
@[simp] theorem bls_mapf {β : Type} (f : β → Bool) (l : List β) : bls (l.map fun x => .bl (f x)) = some (l.map f) := by
  induction l with
  | nil => rfl
  | cons a l ih => simp [bls, ih]
@[simp] theorem bls_mapc {β : Type} (f : β → Bool) (l : List β) : bls (l.map (Dat.bl ∘ f)) = some (l.map f) := bls_mapf f l
@[simp] theorem bls_map' (l : List Bool) : bls (l.map .bl) = some l := by
  have := bls_mapf (fun b : Bool => b) l
  rwa [List.map_id'] at this
@[simp] theorem intsD_mapf {β : Type} (f : β → Int) (l : List β) : intsD (l.map fun x => .int (f x)) = some (l.map f) := by
  induction l with
  | nil => rfl
  | cons a l ih => simp [intsD, ih]
@[simp] theorem intsD_mapc {β : Type} (f : β → Int) (l : List β) : intsD (l.map (Dat.int ∘ f)) = some (l.map f) := intsD_mapf f l
@[simp] theorem intsD_map' (l : List Int) : intsD (l.map .int) = some l := by
  have := intsD_mapf (fun b : Int => b) l
  rwa [List.map_id'] at this
@[simp] theorem intsD_intsDat (l : List Int) : intsD (intsDat l) = some l := intsD_map' l
theorem lim1000' {n : Nat} (h : n ≤ 1000) : n ≤ LIM := Nat.le_trans h (by decide)
end DL
set_option Elab.async false
set_option linter.all false
set_option maxRecDepth 100000
set_option maxHeartbeats 4000000
namespace DL
open PySem PySem.Spec PyProof.Rows L2
section
variable {Q : DV → List Cel → Prop} {X : Exn → List Cel → Prop} {μ : List Cel} {ρ : Rho} {a b : EX} {x y : DV}
@[simp] theorem we_addCL {n : Nat} {b : List Dat} : WE (addD (.c n) (.d (.lst b)) μ) Q X = ∃ a, μ[n]? = some (.lst a) ∧ a.length + b.length ≤ 16777216 ∧ Q (.d (.lst (a ++ b))) μ := by
  cases h : μ[n]? with
  | none => simp [addD, h]
  | some c => cases c <;> simp [addD, h, we_ite]
@[simp] theorem we_addLC {n : Nat} {b : List Dat} : WE (addD (.d (.lst b)) (.c n) μ) Q X = ∃ a, μ[n]? = some (.lst a) ∧ b.length + a.length ≤ 16777216 ∧ Q (.d (.lst (b ++ a))) μ := by
  cases h : μ[n]? with
  | none => simp [addD, h]
  | some c => cases c <;> simp [addD, h, we_ite]
@[simp] theorem we_isiX {tt : List (String × Bool)} {cc : List (Nat × Bool)} : WE (isiX tt cc x μ) Q X = match tyNm x μ with
    | some t => ∃ b, tt.lookup t = some b ∧ Q (.d (.bl b)) μ
    | none => ∃ c b, insC x μ = some c ∧ cc.lookup c = some b ∧ Q (.d (.bl b)) μ := by
  unfold isiX
  cases tyNm x μ with
  | some t => cases h : tt.lookup t <;> simp [h]
  | none =>
    cases insC x μ with
    | none => simp
    | some c =>
      cases h : cc.lookup c with
      | none => simp [h]
      | some b => cases b <;> simp [h]
@[simp] theorem we_binOwn {c : Nat} {g : Gn} : WE (binOwnG c g x y μ) Q X = (insC x μ = some c ∧ insC y μ = some c ∧ WE (g [x, y] μ) Q X0) := by
  unfold binOwnG
  by_cases h : insC x μ = some c <;> by_cases h2 : insC y μ = some c <;> simp [h, h2, we_noR]
@[simp] theorem we_unOwn {c : Nat} {g : Gn} : WE (unOwnG c g x μ) Q X = (insC x μ = some c ∧ WE (g [x] μ) Q X0) := by
  unfold unOwnG
  by_cases h : insC x μ = some c <;> simp [h, we_noR]
@[simp] theorem we_eqOwn {neg : Bool} {c : Nat} {tt : List String} {cc : List Nat} {g : Gn} : WE (eqOwnG neg c tt cc g x y μ) Q X = (insC x μ = some c ∧ okTy tt cc y μ = true ∧ WE (g [x, y] μ) (fun v μ => ∃ b, v = .d (.bl b) ∧ Q (.d (.bl (negB neg b))) μ) X0) := by
  unfold eqOwnG
  by_cases h : insC x μ = some c <;> by_cases h2 : okTy tt cc y μ = true
  · simp only [h, h2, and_self, if_true, true_and, we_bind, we_noR]
    cases g [x, y] μ with
    | stuck => rfl
    | raise e μ => rfl
    | ok v μ =>
      simp only [we_ok]
      cases v with
      | c n => simp
      | d x => cases x <;> simp
  · simp [h, h2]
  · simp [h]
  · simp [h]
@[simp] theorem we_lenOwn {c : Nat} {g : Gn} : WE (lenOwnG c g x μ) Q X = (insC x μ = some c ∧ WE (g [x] μ) (fun v μ => ∃ n, v = .d (.int n) ∧ (0 ≤ n ∧ n < 2 ^ 63) ∧ Q (.d (.int n)) μ) X0) := by
  unfold lenOwnG
  by_cases h : insC x μ = some c
  · simp only [h, if_true, true_and, we_bind, we_noR]
    cases g [x] μ with
    | stuck => rfl
    | raise e μ => rfl
    | ok v μ =>
      simp only [we_ok]
      cases v with
      | c n => simp
      | d x =>
        cases x with
        | int i => simp [we_ite]
        | _ => simp
  · simp [h]
@[simp] theorem we_reprOwn {c : Nat} {g : Gn} : WE (reprOwnG c g x μ) Q X = (insC x μ = some c ∧ WE (g [x] μ) (fun v μ => ∃ n, v = .d (.str n) ∧ Q (.d (.str n)) μ) X0) := by
  unfold reprOwnG
  by_cases h : insC x μ = some c
  · simp only [h, if_true, true_and, we_bind, we_noR]
    cases g [x] μ with
    | stuck => rfl
    | raise e μ => rfl
    | ok v μ =>
      simp only [we_ok]
      cases v with
      | c n => simp
      | d x => cases x <;> simp
  · simp [h]
@[simp] theorem we_fmtS {s : List Nat} : WE (fmtG (.d (.str s)) μ) Q X = Q (.d (.str s)) μ := rfl
@[simp] theorem we_fmtI {i : Int} : WE (fmtG (.d (.int i)) μ) Q X = ((i.natAbs.log2 < 1920 ∧ (intS i).length ≤ 16777216) ∧ Q (.d (.str (intS i))) μ) := we_ite
@[simp] theorem we_js0 {acc : List Nat} : WE (jsG [] acc ρ μ) Q X = Q (.d (.str acc)) μ := rfl
@[simp] theorem we_js1 {xs : List EX} {acc : List Nat} : WE (jsG (a :: xs) acc ρ μ) Q X = WE (a ρ μ) (fun v μ => ∃ s, v = .d (.str s) ∧ acc.length + s.length ≤ 16777216 ∧ WE (jsG xs (acc ++ s) ρ μ) Q X) X := by
  show WE (Out.bind _ _) Q X = _
  rw [we_bind]
  congr 1
  funext v μ
  cases v with
  | c n => simp
  | d x =>
    cases x with
    | str s => simp [we_ite]
    | _ => simp
@[simp] theorem we_inD {neg : Bool} {v : Dat} : WE (inD neg (.d v) y μ) Q X = ∃ ds, itemsD y μ = some ds ∧ (flatD v = true ∧ ds.all flatD = true) ∧ Q (.d (.bl (negB neg (ds.any fun z => eqD z v)))) μ := by
  unfold inD
  cases h : itemsD y μ with
  | none => simp
  | some ds => simp only [Option.some.injEq, exists_eq_left']; exact we_ite
@[simp] theorem we_lt1 {g : G2} : WE (eLt1 g a b ρ μ) Q X = WE (a ρ μ) (fun x μ => ∃ ds, x = .d (.tup ds) ∧ blT ds = true ∧ WE (b ρ μ) (fun y μ => WE (g (.d (.tup ds)) y μ) Q X) X) X := by
  unfold eLt1
  rw [we_bind]
  congr 1
  funext x μ
  cases x with
  | c n => simp
  | d x =>
    cases x with
    | tup ds => by_cases hb : blT ds = true <;> simp [we_bind, hb]
    | _ => simp
@[simp] theorem we_tupIx {ds : List Dat} {v : Dat} : WE (tupIndexD (.d (.tup ds)) (.d v) μ) Q X = ((flatD v = true ∧ ds.all flatD = true ∧ ds.findIdx (fun z => eqD z v) < ds.length) ∧ Q (.d (.int (ds.findIdx (fun z => eqD z v) : Nat))) μ) := we_ite
theorem intS_len (i : Int) (h : i.natAbs.log2 < 1920) : (intS i).length ≤ 16777216 := by
  have := int_text_fits h
  rw [sizeLine_eq] at this
  exact this
end
end DL
set_option Elab.async false
set_option linter.all false
set_option maxRecDepth 100000
set_option maxHeartbeats 4000000
namespace DL
open PySem PySem.Spec PyProof.Rows L2
abbrev reprChar := PySem.Builtin.Str.reprChar
def Asc (x : PySem.Str) : Prop := ∀ c ∈ x.cps.toList, c < 128
theorem Asc.app {a b : PySem.Str} (ha : Asc a) (hb : Asc b) : Asc (a ++ b) := by
  intro c hc
  rw [show (a ++ b).cps = a.cps ++ b.cps from rfl, Array.toList_append, List.mem_append] at hc
  exact hc.elim (ha c) (hb c)
theorem digit_asc (n : Nat) : (Nat.digitChar n).toNat < 128 := by
  by_cases h : n < 16
  · exact (by decide : ∀ n < 16, (Nat.digitChar n).toNat < 128) n h
  · unfold Nat.digitChar
    rw [if_neg (by omega), if_neg (by omega), if_neg (by omega), if_neg (by omega), if_neg (by omega), if_neg (by omega), if_neg (by omega), if_neg (by omega), if_neg (by omega), if_neg (by omega), if_neg (by omega), if_neg (by omega), if_neg (by omega), if_neg (by omega), if_neg (by omega), if_neg (by omega)]
    decide
theorem digits_asc : ∀ (f n : Nat) (ds : List Char), (∀ c ∈ ds, c.toNat < 128) → ∀ c ∈ Nat.toDigitsCore 10 f n ds, c.toNat < 128
  | 0, n, ds, h => by simpa [Nat.toDigitsCore] using h
  | f + 1, n, ds, h => by
    have h2 : ∀ c ∈ Nat.digitChar (n % 10) :: ds, c.toNat < 128 := fun c hc => by
      rcases List.mem_cons.mp hc with rfl | hc
      · exact digit_asc _
      · exact h c hc
    unfold Nat.toDigitsCore
    simp only
    split
    · exact h2
    · exact digits_asc f (n / 10) _ h2
theorem asc_ofString {s : String} (h : ∀ c ∈ s.toList, c.toNat < 128) : Asc (Str.ofString s) := by
  intro c hc
  rw [Str.ofString_eq_toList] at hc
  simp only [List.mem_map] at hc
  obtain ⟨d, hd, rfl⟩ := hc
  exact h d hd
theorem repr_asc (n : Nat) : ∀ c ∈ (Nat.repr n).toList, c.toNat < 128 := by
  have := digits_asc (n + 1) n [] (by simp)
  simpa [Nat.repr, Nat.toDigits] using this
theorem asc_int (i : Int) : Asc (Str.ofString (toString i)) := by
  refine asc_ofString ?_
  cases i with
  | ofNat m => exact repr_asc m
  | negSucc m =>
    show ∀ c ∈ ("-" ++ Nat.repr (m + 1)).toList, _
    intro c hc
    rw [String.toList_append, List.mem_append] at hc
    rcases hc with hc | hc
    · revert c; decide
    · exact repr_asc _ c hc
theorem reprChar_asc : ∀ q ∈ [34, 39], ∀ c < 128, (reprChar q c).all (fun d => decide (d < 128)) = true := by decide +kernel
theorem foldl_asc (q : Nat) (hq : q = 34 ∨ q = 39) : ∀ (l : List Nat) (acc : Array Nat), (∀ c ∈ acc.toList, c < 128) → (∀ c ∈ l, c < 128) → ∀ c ∈ (l.foldl (fun out c => out ++ (reprChar q c).toArray) acc).toList, c < 128
  | [], acc, h, _ => h
  | c :: r, acc, h, hl => by
    rw [List.foldl_cons]
    refine foldl_asc q hq r _ (fun d hd => ?_) fun d hd => hl d (List.mem_cons_of_mem _ hd)
    rw [Array.toList_append, List.mem_append] at hd
    rcases hd with hd | hd
    · exact h d hd
    · have z := reprChar_asc q (by rcases hq with rfl | rfl <;> simp) c (hl c (List.mem_cons_self ..))
      exact of_decide_eq_true (List.all_eq_true.mp z d hd)
theorem quote_two (x : PySem.Str) : reprQuote x = 34 ∨ reprQuote x = 39 := by unfold reprQuote; split <;> simp
theorem asc_repr {x : PySem.Str} (h : Asc x) : Asc (reprText x) := by
  unfold reprText Asc
  intro c hc
  have q : reprQuote x < 128 := by rcases quote_two x with e | e <;> omega
  rw [Array.toList_push, List.mem_append, ← Array.foldl_toList] at hc
  rcases hc with hc | hc
  · refine foldl_asc _ (quote_two x) _ _ (fun d hd => ?_) h c hc
    simp at hd
    omega
  · simp at hc
    omega
theorem asc_lit {s : String} (h : (s.toList.all fun c => decide (c.toNat < 128)) = true) : Asc (Str.ofString s) := asc_ofString fun c hc => of_decide_eq_true (List.all_eq_true.mp h c hc)
theorem asc_from : ∀ (ts : List PySem.Str) (k : Nat) (acc : PySem.Str), Asc acc → (∀ t ∈ ts, Asc t) → Asc (textFrom k acc ts)
  | [], _, _, h, _ => h
  | t :: ts, k, acc, h, ht => by
    unfold textFrom
    refine asc_from ts _ _ (Asc.app (Asc.app h ?_) (ht t (List.mem_cons_self ..))) fun u hu => ht u (List.mem_cons_of_mem _ hu)
    split <;> exact asc_lit (by decide)
theorem asc_list {ts : List PySem.Str} (h : ∀ t ∈ ts, Asc t) : Asc (listText ts) := Asc.app (asc_from ts 0 _ (asc_lit (by decide)) h) (asc_lit (by decide))
theorem asc_join : ∀ {ts : List PySem.Str}, (∀ t ∈ ts, Asc t) → Asc (PySem.Str.join ", " ts)
  | [], _ => fun c hc => by simp [PySem.Str.join, PySem.Str.empty] at hc
  | [x], h => h x (List.mem_cons_self ..)
  | x :: y :: r, h => by
    unfold PySem.Str.join
    exact Asc.app (Asc.app (h x (List.mem_cons_self ..)) (asc_lit (by decide))) (asc_join fun t ht => h t (List.mem_cons_of_mem _ ht))
theorem asc_tuple {ts : List PySem.Str} (h : ∀ t ∈ ts, Asc t) : Asc (tupleText ts) := by
  unfold tupleText
  refine Asc.app (Asc.app (asc_lit (by decide)) (asc_join h)) ?_
  split <;> exact asc_lit (by decide)
mutual
theorem asc_shown : ∀ (n : Nat) (d : Dat), shal n d = true → Asc (pyD d).shown
  | _, .non, _ => asc_lit (by decide)
  | _, .bl b, _ => by cases b <;> exact asc_lit (by decide)
  | _, .int i, _ => asc_int i
  | _, .str s, h => by
    refine asc_repr fun c hc => ?_
    rw [sV_cps] at hc
    have h' : ∀ c ∈ s, c < 128 := by simpa [shal] using h
    exact h' c hc
  | 0, .tup ds, h => by simp [shal] at h
  | 0, .lst ds, h => by simp [shal] at h
  | n + 1, .tup ds, h => asc_tuple (asc_showns n ds (by simpa [shal] using h))
  | n + 1, .lst ds, h => asc_list (asc_showns n ds (by simpa [shal] using h))
  | n, .fl _, h => by cases n <;> simp [shal] at h
  | n, .ins _ _, h => by cases n <;> simp [shal] at h
  | n, .cls _, h => by cases n <;> simp [shal] at h
  | n, .dic, h => by cases n <;> simp [shal] at h
theorem asc_showns : ∀ (n : Nat) (ds : List Dat), shals n ds = true → ∀ t ∈ PyData.shownAll (pyDs ds), Asc t
  | _, [], _ => fun t ht => by simp [pyDs, PyData.shownAll] at ht
  | n, d :: ds, h => fun t ht => by
    have h' : shal n d = true ∧ shals n ds = true := by simpa [shals] using h
    rcases List.mem_cons.mp (show t ∈ (pyD d).shown :: PyData.shownAll (pyDs ds) from ht) with rfl | ht
    · exact asc_shown n d h'.1
    · exact asc_showns n ds h'.2 t ht
end
mutual
/-- ints below 10 ** 12 -/
def smallD : Dat → Bool
  | .int i => decide (i.natAbs < 1000000000000)
  | .tup ds => smallDs ds
  | .lst ds => smallDs ds
  | _ => true
def smallDs : List Dat → Bool
  | [] => true
  | d :: ds => smallD d && smallDs ds
end
mutual
def wtD : Dat → Nat
  | .int _ => 40
  | .str s => s.length
  | .tup ds => wtDs ds
  | .lst ds => wtDs ds
  | _ => 0
def wtDs : List Dat → Nat
  | [] => 0
  | d :: ds => wtD d + 1 + wtDs ds
end
mutual
theorem short_of : ∀ (n : Nat) (d : Dat), shal n d = true → smallD d = true → (pyD d).leavesShort 13 = true ∧ (pyD d).showable = true ∧ (pyD d).weight ≤ wtD d
  | _, .non, _, _ => ⟨rfl, rfl, Nat.le_refl _⟩
  | _, .bl b, _, _ => ⟨rfl, rfl, Nat.le_refl _⟩
  | _, .int i, _, h => by
    have h' : i.natAbs < 1000000000000 := by simpa [smallD] using h
    have hl : i.natAbs ≠ 0 → i.natAbs.log2 < 40 := fun h0 => (Nat.log2_lt h0).mpr (Nat.lt_trans h' (by decide))
    refine ⟨?_, ?_, ?_⟩
    · show decide ((Str.ofString (toString i)).length ≤ 13) = true
      have e := int_text_length_le10 (a := i) (k := 12) (by decide) (by simpa using h')
      rw [PySem.ofString_length]
      exact decide_eq_true e
    · show decide (i.natAbs.log2 < 1920) = true
      by_cases h0 : i.natAbs = 0
      · rw [h0]; decide
      · exact decide_eq_true (Nat.lt_trans (hl h0) (by decide))
    · show (if i == 0 then 0 else i.natAbs.log2 + 1) ≤ 40
      split
      · omega
      · rename_i h0
        have := hl (by simpa using h0)
        omega
  | n, .str s, h, _ => by
    have h' : ∀ c ∈ s, c < 128 := by cases n <;> simpa [shal] using h
    refine ⟨?_, rfl, ?_⟩
    · show ((sV s).cps.toList.all fun c => decide (c < 16 ^ 8)) = true
      rw [sV_cps, List.all_eq_true]
      exact fun c hc => decide_eq_true (Nat.lt_trans (h' c hc) (by decide))
    · show (sV s).cps.size ≤ s.length
      rw [← Array.length_toList, sV_cps]
      exact Nat.le_refl _
  | 0, .tup ds, h, _ => by simp [shal] at h
  | 0, .lst ds, h, _ => by simp [shal] at h
  | n + 1, .tup ds, h, k => shorts_of n ds (by simpa [shal] using h) (by simpa [smallD] using k)
  | n + 1, .lst ds, h, k => shorts_of n ds (by simpa [shal] using h) (by simpa [smallD] using k)
  | n, .fl _, h, _ => by cases n <;> simp [shal] at h
  | n, .ins _ _, h, _ => by cases n <;> simp [shal] at h
  | n, .cls _, h, _ => by cases n <;> simp [shal] at h
  | n, .dic, h, _ => by cases n <;> simp [shal] at h
theorem shorts_of : ∀ (n : Nat) (ds : List Dat), shals n ds = true → smallDs ds = true → PyData.leavesShortAll 13 (pyDs ds) = true ∧ PyData.showableAll (pyDs ds) = true ∧ PyData.weightAll (pyDs ds) ≤ wtDs ds
  | _, [], _, _ => ⟨rfl, rfl, Nat.le_refl _⟩
  | n, d :: ds, h, k => by
    have h' : shal n d = true ∧ shals n ds = true := by simpa [shals] using h
    have k' : smallD d = true ∧ smallDs ds = true := by simpa [smallDs] using k
    obtain ⟨a, b, c⟩ := short_of n d h'.1 k'.1
    obtain ⟨a2, b2, c2⟩ := shorts_of n ds h'.2 k'.2
    refine ⟨?_, ?_, ?_⟩
    · show (_ && _) = true
      rw [a, a2]; rfl
    · show (_ && _) = true
      rw [b, b2]; rfl
    · show _ + 1 + _ ≤ wtD d + 1 + wtDs ds
      omega
end
theorem reprOk_of {d : Dat} (h : shal 60 d = true) (k : smallD d = true) (w : wtD d ≤ 1048576) : reprOk d = true := by
  obtain ⟨a, b, c⟩ := short_of 60 d h k
  have z := PyData.shown_fits (B := 13) (by decide) (by decide) a (Nat.le_trans c w)
  unfold reprOk
  rw [h, b, Bool.true_and, Bool.true_and]
  rw [sizeLine_eq] at z
  exact decide_eq_true z
theorem shal_repr {d : Dat} (h : shal 60 d = true) : shal 60 (.str (reprD d)) = true := by
  have := asc_shown 60 d h
  show ((reprD d).all fun c => decide (c < 128)) = true
  rw [List.all_eq_true]
  exact fun c hc => decide_eq_true (this c hc)
theorem eqD_str (s : List Nat) : eqD (.str s) (.str s) = true := by simp [eqD]
end DL
set_option Elab.async false
set_option linter.all false
set_option maxRecDepth 100000
set_option maxHeartbeats 4000000
namespace DL
open PySem PySem.Spec PyProof.Rows L2
end DL
set_option Elab.async false
set_option linter.all false
set_option maxRecDepth 100000
set_option maxHeartbeats 4000000
namespace DL
open PySem PySem.Spec PyProof.Rows L2
def gTL (n : Nat) (gs : GXs) : GX := fun v ρ μ => match v with
  | .d (.lst ds) => if ds.length = n then gs ds ρ μ else .stuck
  | _ => .stuck
section
variable {Q : DV → List Cel → Prop} {X : Exn → List Cel → Prop} {N : Rho → List Cel → Prop} {R : DV → List Cel → Prop} {Xs : Exn → Rho → List Cel → Prop} {ρ : Rho} {μ : List Cel} {x : EX} {gs : GXs}
@[simp] theorem ws_gTL {n : Nat} {ds : List Dat} : WS (gTL n gs (.d (.lst ds)) ρ μ) N R Xs = (ds.length = n ∧ WS (gs ds ρ μ) N R Xs) := by
  unfold gTL
  dsimp only
  split <;> simp [*]
end
end DL
set_option Elab.async false
set_option linter.all false
set_option maxRecDepth 100000
set_option maxHeartbeats 4000000
namespace DL
open PySem PySem.Spec PyProof.Rows L2
end DL
set_option Elab.async false
set_option linter.all false
set_option maxRecDepth 100000
set_option maxHeartbeats 4000000
namespace DL
open PySem PySem.Spec PyProof.Rows L2
def Itz3 (K : PySem.W.Frag) (a b c : Addr) : It :=
  ⟨fun i H => ∃ (xs ys zs : List V) (x y z : V), SqT K H a xs ∧ SqL K H b ys ∧ SqT K H c zs ∧ xs[i]? = some x ∧ ys[i]? = some y ∧ zs[i]? = some z,
    fun i H v H' => ∃ T x y z, v = .ref T ∧ H T = none ∧ H' = upd H T (.tup [x, y, z]) ∧ (∀ xs, SqT K H a xs → xs[i]? = some x) ∧ (∀ ys, SqL K H b ys → ys[i]? = some y) ∧ ∀ zs, SqT K H c zs → zs[i]? = some z,
    fun i H => ∃ xs ys zs : List V, SqT K H a xs ∧ SqL K H b ys ∧ SqT K H c zs ∧ i ≤ xs.length ∧ i ≤ ys.length ∧ i ≤ zs.length ∧ (i = xs.length ∨ i = ys.length ∨ i = zs.length)⟩
theorem turn_zip3 {P : Program} {w : World} {K : PySem.W.Frag} {elts : List Expr} {kk : Nat} {tpos : Pos} {a b c z TI TO i1 i2 i3 : Addr} (S : ZipSep3 z TI TO i1 i2 i3 [i1, a] [i2, b] [i3, c]) (n1 : a ≠ i1) (n2 : b ≠ i2) (n3 : c ≠ i3) :
    Turn P w K (.Tuple elts kk tpos) (Itz3 K a b c) [z, TI, TO, i1, i2, i3] z (fun i h => IsZip h z TI TO .none ∧ IsTupOf3 h TI (.ref i1) (.ref i2) (.ref i3) ∧ (∃ x y u, IsTupOf3 h TO x y u) ∧ h.IsTupleIter i1 a i ∧ h.IsListIter i2 b i ∧ h.IsTupleIter i3 c i) where
  mem := by simp
  obj := fun i h st q hq => by
    obtain ⟨hz, hTI, ⟨x, y, u, hTO⟩, ⟨o1, e1, _, d1⟩, ⟨o2, e2, _, d2⟩, ⟨o3, e3, _, d3⟩⟩ := st
    have e' : q = z ∨ q = TI ∨ q = TO ∨ q = i1 ∨ q = i2 ∨ q = i3 := by simpa using hq
    rcases e' with rfl | rfl | rfl | rfl | rfl | rfl
    · exact ⟨_, hz, fun v q => nomatch q⟩
    · exact ⟨_, hTI, fun v q => nomatch q⟩
    · exact ⟨_, hTO, fun v q => nomatch q⟩
    · exact ⟨o1, e1, fun v q => by rw [d1] at q; cases q⟩
    · exact ⟨o2, e2, fun v q => by rw [d2] at q; cases q⟩
    · exact ⟨o3, e3, fun v q => by rw [d3] at q; cases q⟩
  keep := fun i h h' st k => by
    obtain ⟨hz, hTI, ⟨x, y, u, hTO⟩, h1, h2, h3⟩ := st
    exact ⟨k z (by simp) _ hz, k TI (by simp) _ hTI, ⟨x, y, u, k TO (by simp) _ hTO⟩, h1.at fun o q => k i1 (by simp) o q, h2.at fun o q => k i2 (by simp) o q, h3.at fun o q => k i3 (by simp) o q⟩
  item := by
    intro X hP hw hK hc i pins s σ H E I hf st hg
    subst hP hw hK
    obtain ⟨hz, hTI, ⟨x0, y0, u0, hTO⟩, h1, h2, h3⟩ := st
    obtain ⟨xs, ys, zs, x, y, u, hqx, hqy, hqz, hx, hy, hu⟩ := hg
    obtain ⟨its, rv, p, _⟩ := I.tuple hqx
    obtain ⟨its2, rv2, p2, _⟩ := I.list hqy
    obtain ⟨its3, rv3, p3, _⟩ := I.tuple hqz
    obtain ⟨w1, hw1, rw1⟩ := rv.get hx
    obtain ⟨w2, hw2, rw2⟩ := rv2.get hy
    obtain ⟨w3, hw3, rw3⟩ := rv3.get hu
    have hzl : z < s.heap.objs.size := Heap.lt_size hz
    have l1 : i < its.toArray.size := by
      have := (List.getElem?_eq_some_iff.mp hw1).1
      simpa using this
    have l2 : i < its2.toArray.size := by
      have := (List.getElem?_eq_some_iff.mp hw2).1
      simpa using this
    have l3 : i < its3.toArray.size := by
      have := (List.getElem?_eq_some_iff.mp hw3).1
      simpa using this
    have D1 := Draws.tuple (prog := X.prog) (w := X.w) (A := X.A.in1) (show X.A.in1.handled = none from I.ok.hd hc) i1 a n1 its.toArray
    have D2 := Draws.list (prog := X.prog) (w := X.w) (A := X.A.in1) (show X.A.in1.handled = none from I.ok.hd hc) i2 b n2 its2.toArray
    have D3 := Draws.tuple (prog := X.prog) (w := X.w) (A := X.A.in1) (show X.A.in1.handled = none from I.ok.hd hc) i3 c n3 its3.toArray
    refine wpAny_pyNext_zipD3_item S D1 D2 D3 hz hTI hTO ⟨h1, (show s.heap.IsTuple a its.toArray from p)⟩ ⟨h2, p2.isList⟩ ⟨h3, (show s.heap.IsTuple c its3.toArray from p3)⟩ l1 l2 l3 fun v1 v2 v3 h' tk q1 q2 q3 z' TO' st1 st2 st3 hT hsz hk => ?_
    obtain rfl : v1 = w1 := by
      have q1 : its.toArray[i]? = some v1 := q1
      rw [List.getElem?_toArray, hw1] at q1
      exact (Option.some.inj q1).symm
    obtain rfl : v2 = w2 := by
      have q2 : its2.toArray[i]? = some v2 := q2
      rw [List.getElem?_toArray, hw2] at q2
      exact (Option.some.inj q2).symm
    obtain rfl : v3 = w3 := by
      have q3 : its3.toArray[i]? = some v3 := q3
      rw [List.getElem?_toArray, hw3] at q3
      exact (Option.some.inj q3).symm
    refine ⟨_, rfl, wpAny_letOwnedTupleGo_zip (s := { s with heap := h', toks := tk }) z' fun h'' z'' sb => ?_⟩
    have hT2 : h''.get? s.heap.objs.size = some { cls := .type "tuple", data := .seq #[v1, v2, v3] } := (sb.2 _ (Nat.ne_of_gt hzl)).trans hT
    have new : ObjOk X.prog X.w (upd H s.heap.objs.size (.tup [x, y, u])) h'' s.heap.objs.size (.tup [x, y, u]) :=
      ⟨by show 3 ≤ sizeLine; decide, [v1, v2, v3], .cons rw1 (.cons rw2 (.cons rw3 .nil)), ⟨_, hT2, rfl, _, rfl⟩⟩
    have I1 : Inv X pins σ (upd H s.heap.objs.size (.tup [x, y, u])) { s with heap := h'', toks := tk } :=
      I.turnedNew (t' := tk) (ch := [z, TI, TO, i1, i2, i3]) (fun c o hb q => (sb.2 c (fun q' => hb (by simp [q']))).trans (hk c o (fun q' => hb (by simp [q'])) (fun q' => hb (by simp [q'])) (fun q' => hb (by simp [q'])) (fun q' => hb (by simp [q'])) (fun q' => hb (by simp [q'])) q)) hf (Nat.le_refl _) new
    refine ⟨.ref s.heap.objs.size, _, I1, rfl, ⟨_, x, y, u, rfl, I.hok.fresh (Nat.le_refl _), rfl, fun l hl => by rw [I.tuple_inj hl hqx]; exact hx, fun l hl => by rw [I.list_inj hl hqy]; exact hy, fun l hl => by rw [I.tuple_inj hl hqz]; exact hu⟩, ⟨z'', ?_, ⟨v1, v2, v3, ?_⟩, ?_, ?_, ?_⟩, fun q hqm => ?_⟩
    · exact (sb.2 _ S.TIz).trans (hk _ _ S.TIz S.TITO S.TIi1 S.TIi2 S.TIi3 hTI)
    · exact (sb.2 _ S.TOz).trans TO'
    · exact st1.1.at fun o q => (sb.2 _ (fun e => S.zf1 (e ▸ S.mem1))).trans q
    · exact st2.1.at fun o q => (sb.2 _ (fun e => S.zf2 (e ▸ S.mem2))).trans q
    · exact st3.1.at fun o q => (sb.2 _ (fun e => S.zf3 (e ▸ S.mem3))).trans q
    · have hlt : q < s.heap.objs.size := by
        have e' : q = z ∨ q = TI ∨ q = TO ∨ q = i1 ∨ q = i2 ∨ q = i3 := by simpa using hqm
        rcases e' with rfl | rfl | rfl | rfl | rfl | rfl
        · exact hzl
        · exact Heap.lt_size hTI
        · exact Heap.lt_size hTO
        · obtain ⟨_, e1, _⟩ := h1; exact Heap.lt_size e1
        · obtain ⟨_, e2, _⟩ := h2; exact Heap.lt_size e2
        · obtain ⟨_, e3, _⟩ := h3; exact Heap.lt_size e3
      rw [upd_ne (Nat.ne_of_lt hlt)]
      exact (hf q hqm).1
  done := by
    intro X hP hw hK hc i pins s σ H E I hf st hg
    subst hP hw hK
    obtain ⟨hz, hTI, ⟨x0, y0, u0, hTO⟩, h1, h2, h3⟩ := st
    obtain ⟨xs, ys, zs, hqx, hqy, hqz, le1, le2, le3, hend⟩ := hg
    obtain ⟨its, rv, p, _⟩ := I.tuple hqx
    obtain ⟨its2, rv2, p2, _⟩ := I.list hqy
    obtain ⟨its3, rv3, p3, _⟩ := I.tuple hqz
    have l1 := rv.length
    have l2 := rv2.length
    have l3 := rv3.length
    have D1 := Draws.tuple (prog := X.prog) (w := X.w) (A := X.A.in1) (show X.A.in1.handled = none from I.ok.hd hc) i1 a n1 its.toArray
    have D2 := Draws.list (prog := X.prog) (w := X.w) (A := X.A.in1) (show X.A.in1.handled = none from I.ok.hd hc) i2 b n2 its2.toArray
    have D3 := Draws.tuple (prog := X.prog) (w := X.w) (A := X.A.in1) (show X.A.in1.handled = none from I.ok.hd hc) i3 c n3 its3.toArray
    exact wpAny_pyNext_zipD3_end S D1 D2 D3 hz hTI hTO ⟨h1, (show s.heap.IsTuple a its.toArray from p)⟩ ⟨h2, p2.isList⟩ ⟨h3, (show s.heap.IsTuple c its3.toArray from p3)⟩ (by simp; omega) (by simp; omega) (by simp; omega) (by simp; omega)
      fun h' tk hk => ⟨rfl, I.turnedL (t' := tk) (ch := [z, TI, TO, i1, i2, i3]) (fun c o hb q => hk c o (fun q' => hb (by simp [q'])) (fun q' => hb (by simp [q'])) (fun q' => hb (by simp [q'])) (fun q' => hb (by simp [q'])) (fun q' => hb (by simp [q'])) q) hf⟩
  self := fun A i s Q E st h => wpAny_pyIter_zip st.1 h
def iZip3T (K : PySem.W.Frag) (ta : TA) : TI := fun σ H R => ta σ H fun vs H1 => ∃ a b c xs ys zs, vs = [.ref a, .ref b, .ref c] ∧ SqT K H1 a xs ∧ SqL K H1 b ys ∧ SqT K H1 c zs ∧ R (Itz3 K a b c) H1
theorem pi_zip3 {X : Cx} {e e2 e3 : Expr} {ta : TA} {p pos tpos : Pos} {elts : List Expr} {kk : Nat} (hg : Gl X "zip") (hm : X.mg "zip" = none) (ha : PA X [e, e2, e3] ta)
    (hs : starEach [e, e2, e3] X.env = (false, eval e X.env) :: starEach [e2, e3] X.env := by rfl) (hpl : (backTo pos (starEach [e2, e3] X.env)).any (·.1) = false := by rfl) :
    PI X (.Tuple elts kk tpos) (.Call (.Name "zip" p) [e, e2, e3] [] pos) (iZip3T X.K ta) := by
  refine ⟨fun pins s σ H R I h => ?_⟩
  refine Call_ (ld_blt I hg hm PyProof.Rows.boot_zip (PyProof.Rows.callWith_type1 (thn (ha.run pos pins s σ H _ I h) fun us s1 ⟨vs, H1, I1, r1, q1⟩ => ?_) hs hpl))
  obtain ⟨a, b, c, xs, ys, zs, ex, hqx, hqy, hqz, q⟩ := q1
  subst ex
  cases r1 with
  | cons r rr =>
    cases rr with
    | cons r' rr =>
      cases rr with
      | cons r'' rr =>
        cases rr
        cases r
        cases r'
        cases r''
        have fresh6 : ∀ c, c ∈ [s1.heap.objs.size + 5, s1.heap.objs.size + 3, s1.heap.objs.size + 4, s1.heap.objs.size, s1.heap.objs.size + 1, s1.heap.objs.size + 2] → FpOk X pins H1 c := fun c hcm => by
          have hle : s1.heap.objs.size ≤ c := by
            simp only [List.mem_cons, List.not_mem_nil, or_false] at hcm
            rcases hcm with z | z | z | z | z | z <;> rw [z] <;> first | exact Nat.le_add_right _ _ | exact Nat.le_refl _
          exact I1.fpOk hle (I1.hok.fresh hle)
        obtain ⟨its, rv, p1, _⟩ := I1.tuple hqx
        obtain ⟨its2, rv2, p2, _⟩ := I1.list hqy
        obtain ⟨its3, rv3, p3, _⟩ := I1.tuple hqz
        have la : a < s1.heap.objs.size := by obtain ⟨o2, ho2, _⟩ := id p1; exact Heap.lt_size ho2
        have lb : b < s1.heap.objs.size := p2.lt
        have lc : c < s1.heap.objs.size := by obtain ⟨o2, ho2, _⟩ := id p3; exact Heap.lt_size ho2
        refine zip_begins3 (begins_tuple a its.toArray) (begins_list b its2.toArray) (begins_tuple c its3.toArray) (show s1.heap.IsTuple a its.toArray from p1) p2.isList (show s1.heap.IsTuple c its3.toArray from p3) fun h' hz hTI hTO g1 g2 g3 hsz hk => wpAny_pyIter_zip hz ?_
        have I2 : Inv X pins σ H1 { s1 with heap := h' } := I1.kept (t' := s1.toks) hk
        have S := zip_sep3 (N := s1.heap.objs.size) (fp1 := [a]) (fp2 := [b]) (fp3 := [c]) (fun q hq => by simp at hq; rw [hq]; exact la) (fun q hq => by simp at hq; rw [hq]; exact lb) (fun q hq => by simp at hq; rw [hq]; exact lc)
        exact ⟨s1.heap.objs.size + 5, [s1.heap.objs.size + 5, s1.heap.objs.size + 3, s1.heap.objs.size + 4, s1.heap.objs.size, s1.heap.objs.size + 1, s1.heap.objs.size + 2], _, _, H1, rfl, I2, turn_zip3 S (Nat.ne_of_lt la) (Nat.ne_of_lt (Nat.lt_succ_of_lt lb)) (Nat.ne_of_lt (Nat.lt_succ_of_lt (Nat.lt_succ_of_lt lc))), ⟨hz, hTI, ⟨_, _, _, hTO⟩, ⟨_, g1, rfl, rfl⟩, ⟨_, g2, rfl, rfl⟩, ⟨_, g3, rfl, rfl⟩⟩, fresh6, q⟩
def zip3D : List Dat → List Dat → List Dat → List Dat
  | d :: ds, e :: es, f :: fs => .tup [d, e, f] :: zip3D ds es fs
  | _, _, _ => []
theorem zip3D_len : ∀ (ds es fs : List Dat), (zip3D ds es fs).length = min ds.length (min es.length fs.length)
  | [], es, fs => by simp [zip3D]
  | _ :: _, [], fs => by simp [zip3D]
  | _ :: _, _ :: _, [] => by simp [zip3D]
  | _ :: ds, _ :: es, _ :: fs => by
    simp only [zip3D, List.length_cons, zip3D_len ds es fs]
    omega
theorem zip3D_get : ∀ (i : Nat) (ds es fs : List Dat) (d e f : Dat), ds[i]? = some d → es[i]? = some e → fs[i]? = some f → (zip3D ds es fs)[i]? = some (.tup [d, e, f])
  | 0, _ :: _, _ :: _, _ :: _, d, e, f, h1, h2, h3 => by
    simp at h1 h2 h3
    subst h1 h2 h3
    rfl
  | i + 1, _ :: ds, _ :: es, _ :: fs, d, e, f, h1, h2, h3 => zip3D_get i ds es fs d e f (by simpa using h1) (by simpa using h2) (by simpa using h3)
/-- no tuple that is handed out is a row of truths -/
def zip3B (ds es fs : List Dat) : Bool := (zip3D ds es fs).all fun p => match p with | .tup l => !blT l | _ => false
theorem zip3B_at {ds es fs : List Dat} (h : zip3B ds es fs = true) {i : Nat} {d e f : Dat} (h1 : ds[i]? = some d) (h2 : es[i]? = some e) (h3 : fs[i]? = some f) : blT [d, e, f] = false := by
  have hm := List.mem_of_getElem? (zip3D_get i ds es fs d e f h1 h2 h3)
  have := List.all_eq_true.mp h _ hm
  simpa using this
def zip3M : DV → DV → DV → Option (List Dat)
  | .d (.tup ds), .d (.lst es), .d (.tup fs) => if zip3B ds es fs = true then some (zip3D ds es fs) else none
  | _, _, _ => none
def iZip3 (a b c : EX) : IX := fun ρ μ => (a ρ μ).bind fun v μ => (b ρ μ).bind fun w μ => (c ρ μ).bind fun u μ => ofS (zip3M v w u) μ
section
variable {K : Fr} {F : Hp} {ds es fs : List Dat} {xs ys zs : List V} {a b c : Addr}
theorem tri_laid {H : Hp} {α : List Addr} {μ : List Cel} {T : Addr} {x y z : V} {d e f : Dat} (m : Mem K F H α μ) (hT : H T = none) (r1 : Rep K F d x) (r2 : Rep K F e y) (r3 : Rep K F f z) (hb : blT [d, e, f] = false) :
    ∃ F', Grow F α F' α ∧ Mem K F' (upd H T (.tup [x, y, z])) α μ ∧ Rep K F' (.tup [d, e, f]) (.ref T) := by
  obtain ⟨m2, g⟩ := m.laid (o := .tup [x, y, z]) hT
  refine ⟨_, g, m2, by show 3 ≤ 16777216; decide, T, [x, y, z], rfl, ⟨.inl (.inl upd_same), fun q => by rw [hb] at q; cases q⟩, ?_⟩
  exact .cons (r1.le g.f) (.cons (r2.le g.f) (.cons (r3.le g.f) .nil))
theorem gives_zip3 (h : SqT K F a xs) (r : Reps K F ds xs) (h2 : SqL K F b ys) (r2 : Reps K F es ys) (h3 : SqT K F c zs) (r3 : Reps K F fs zs) (hb : zip3B ds es fs = true) : Gives K F (Itz3 K a b c) (zip3D ds es fs) where
  go := fun i H l hi => by
    rw [zip3D_len] at hi
    have l1 : i < xs.length := by rw [← r.length]; omega
    have l2 : i < ys.length := by rw [← r2.length]; omega
    have l3 : i < zs.length := by rw [← r3.length]; omega
    exact ⟨xs, ys, zs, xs[i], ys[i], zs[i], sqT_le0 l h, sqL_le l h2, sqT_le0 l h3, by simp, by simp, by simp⟩
  stop := fun i H l hi => by
    rw [zip3D_len] at hi
    refine ⟨xs, ys, zs, sqT_le0 l h, sqL_le l h2, sqT_le0 l h3, ?_⟩
    rw [← r.length, ← r2.length, ← r3.length]
    omega
  yld := fun i H H' x F1 α μ l m hi ⟨T, y, z, u, ex, hT, e, q, q2, q3⟩ => by
    subst e ex
    obtain ⟨d, hd, rd⟩ := r.get (q xs (sqT_le0 (l.trans m.fz) h))
    obtain ⟨d2, hd2, rd2⟩ := r2.get (q2 ys (sqL_le (l.trans m.fz) h2))
    obtain ⟨d3, hd3, rd3⟩ := r3.get (q3 zs (sqT_le0 (l.trans m.fz) h3))
    obtain ⟨F2, g, m2, r4⟩ := tri_laid m hT (rd.le l) (rd2.le l) (rd3.le l) (zip3B_at hb hd hd2 hd3)
    exact ⟨F2, _, zip3D_get i ds es fs d d2 d3 hd hd2 hd3, g, m2, r4⟩
end
section
variable {X : Cx} {W : WX} {e e' e'' : Expr} {x x' x'' : EX} {pos p tpos : Pos} {elts : List Expr} {kk : Nat}
theorem repVs3 {K : Fr} {F : Hp} {α : List Addr} {a b c : DV} {vs : List V} (h : RepVs K F α [a, b, c] vs) : ∃ x y z, vs = [x, y, z] ∧ RepV K F α a x ∧ RepV K F α b y ∧ RepV K F α c z := by
  obtain ⟨x, xs, rfl, h1, y, ys, rfl, h2, z, zs, rfl, h3, h4⟩ := h
  cases (show zs = [] from h4)
  exact ⟨x, y, z, rfl, h1, h2, h3⟩
theorem di_zip3 (hg : Gl X "zip") (hm : X.mg "zip" = none) (he : DE X W e x) (he' : DE X W e' x') (he'' : DE X W e'' x'') (hs : starEach [e, e', e''] X.env = (false, eval e X.env) :: starEach [e', e''] X.env := by rfl) (hpl : (backTo pos (starEach [e', e''] X.env)).any (·.1) = false := by rfl)
    (hs2 : starEach [e', e''] X.env = (false, eval e' X.env) :: starEach [e''] X.env := by rfl) (hs3 : starEach [e''] X.env = (false, eval e'' X.env) :: starEach [] X.env := by rfl) : DI X W (.Tuple elts kk tpos) (.Call (.Name "zip" p) [e, e', e''] [] pos) (iZip3 x x' x'') := by
  refine ⟨PI.of (pi_zip3 hg hm (da_cons he (da_cons he' (da_cons he'' da_nil hs3) hs2) hs).pa hs hpl) fun σ H R ⟨F, α, ρ, μ, m, sl, o⟩ => ?_⟩
  replace o : ItOk X.K W σ F α ((x ρ μ).bind fun v μ => (x' ρ μ).bind fun w μ => (x'' ρ μ).bind fun u μ => ofS (zip3M v w u) μ) R := o
  refine tX_mk (x := as1 x (as1 x' (as1 x'' as0))) (R := RVs X.K) m sl ?_
  show OutOk (RVs X.K) X.K F α ((x ρ μ).bind fun v μ => ((x' ρ μ).bind fun w μ => ((x'' ρ μ).bind fun u μ => (as0 ρ μ).bind fun vs μ => .ok (u :: vs) μ).bind fun vs μ => .ok (w :: vs) μ).bind fun vs μ => .ok (v :: vs) μ) _ _
  cases e0 : x ρ μ with
  | stuck => rw [e0] at o; exact o
  | raise ex μ1 => rw [e0] at o; exact o
  | ok v μ1 =>
    rw [e0] at o
    simp only [bind_ok] at o ⊢
    cases e1 : x' ρ μ1 with
    | stuck => rw [e1] at o; exact o
    | raise ex μ2 => rw [e1] at o; exact o
    | ok w μ2 =>
      rw [e1] at o
      simp only [bind_ok] at o ⊢
      cases e2 : x'' ρ μ2 with
      | stuck => rw [e2] at o; exact o
      | raise ex μ3 => rw [e2] at o; exact o
      | ok u μ3 =>
        rw [e2] at o
        intro us F1 α1 H1 g1 m1 r1
        obtain ⟨v1, v2, v3, rfl, q1, q2, q3⟩ := repVs3 r1
        clear r1
        replace o : ItOk X.K W σ F α (ofS (zip3M v w u) μ3) R := o
        unfold zip3M at o
        split at o
        · rename_i ds es fs
          obtain ⟨z, a, xs, rfl, hx, rr⟩ := q1
          obtain ⟨z', b, ys, rfl, hy, rr'⟩ := q2
          obtain ⟨z'', c, zs, rfl, hz, rr''⟩ := q3
          by_cases hb : zip3B ds es fs = true
          case neg => rw [if_neg hb] at o; exact o.elim
          rw [if_pos hb] at o
          exact ⟨a, b, c, xs, ys, zs, rfl, sqT_le m1.fz hx, SqL.of (m1.fz _ _ hy), sqT_le m1.fz hz, o F1 α1 H1 _ g1 m1 (gives_zip3 hx.1 rr (SqL.of hy) rr' hz.1 rr'' hb)⟩
        · exact o.elim
end
end DL
set_option Elab.async false
set_option linter.all false
set_option maxRecDepth 100000
set_option maxHeartbeats 1000000
namespace GenE
open PySem PySem.Spec PyProof.Rows GenW L2
abbrev Pns := List (Addr × Obj)
/-- a consumer: where its objects lie, how they stand when ys is out -/
structure Eater where
  ad : List Addr
  st : List V → Pns → Prop
  on : ∀ ys ps, st ys ps → ∀ a, a ∈ ad ↔ ∃ o, (a, o) ∈ ps
  nc : ∀ ys ps, st ys ps → ∀ p ∈ ps, ∀ v, p.2.data ≠ .cell v
/-- while the generator slept, x was taken over -/
structure Dozed (K : Eater) (ys : List V) (x : V) (s s' : Shared) : Prop where
  os : s'.os = s.os
  bare : AllBare s'.gens
  keep : ∀ b o, b ∉ K.ad → s.heap.get? b = some o → s'.heap.get? b = some o
  own : ∀ ps, K.st ys ps → (∀ p ∈ ps, s.heap.get? p.1 = some p.2) → ∃ ps', K.st (ys ++ [x]) ps' ∧ ∀ p ∈ ps', s'.heap.get? p.1 = some p.2
def ApartC (X : Cx) (K : Eater) : Prop := ∀ a ∈ K.ad, X.s_0.heap.objs.size ≤ a ∧ a ≠ X.env.locals ∧ (∀ x c, X.env.cells.lookup x = some c → c ≠ a) ∧ a ∉ X.fs
def CI (X : Cx) (K : Eater) (ip : Pns) (ys : List V) (σ : L2.St) (H : Hp) (s : Shared) : Prop := ∃ ps, K.st ys ps ∧ Inv X (ps ++ ip) σ H s
theorem CI.woken {X : Cx} {K : Eater} {ip : Pns} {ys : List V} {x : V} {σ : L2.St} {H : Hp} {s s' : Shared} (hpn : ∀ p ∈ X.pn, p.1 ∉ K.ad) (hip : ∀ p ∈ ip, p.1 ∉ K.ad) (hA : ApartC X K) (h : CI X K ip ys σ H s) (z : Dozed K ys x s s') :
    CI X K ip (ys ++ [x]) σ H s' := by
  obtain ⟨ps, hst, I⟩ := h
  have pin : ∀ p ∈ ps, _ := fun p hp => I.pin p (List.mem_append_right _ (List.mem_append_left _ hp))
  have I0 : Inv X ip σ H s := I.pins_of fun p hp => I.pin p (List.mem_append_right _ (List.mem_append_right _ hp))
  have hN : ∀ a ∈ K.ad, H a = none := fun a ha => by
    obtain ⟨o, ho⟩ := (K.on ys ps hst a).mp ha
    exact (pin (a, o) ho).2.1
  have nt : ∀ b u, H b = some u → b ∉ K.ad := fun b u q hb => by rw [hN b hb] at q; cases q
  obtain ⟨z1, z2, z3, z4⟩ := z
  obtain ⟨ps', hst', hps'⟩ := z4 ps hst fun p hp => (pin p hp).1
  obtain ⟨hh, g, d, t, o⟩ := s'
  have ho : o = s.os := z1
  subst ho
  have J : Inv X ip σ H { s with heap := hh, gens := g, drawn := d, toks := t } := by
    refine I0.step (g' := g) (t' := t) (d' := d) (ch := K.ad) (fun b hb => ?_)
      (fun b ob _ _ hc q _ => z3 b ob hc q) (fun b ob _ _ hc q _ => ⟨ob.slots, z3 b ob hc q⟩) (fun _ _ _ _ n => n) (fun b ob hc q => ⟨ob, z3 b ob hc q⟩)
      (fun _ _ q => q) (fun _ _ _ q => q) (fun b ps q => ⟨#[], by rw [q]; simp⟩) (fun m hm => ?_) (fun b u q => ?_) z2
    · obtain ⟨a1, a2, a3, _⟩ := hA b hb
      refine ⟨.inr a1, a2, a3, fun p hp e => ?_⟩
      rcases List.mem_append.mp hp with hp | hp
      · exact hpn p hp (e ▸ hb)
      · exact hip p hp (e ▸ hb)
    · obtain ⟨ob, es, ep, ho, r⟩ := hm
      exact ⟨ob, es, ep, z3 _ ob (fun z => (hA _ z).2.1 rfl) ho, r⟩
    · refine (I0.hok b u q).stay (fun c v hc y => z3 c v ?_ y) (fun _ y => y) fun _ _ y => y
      rcases hc with y | y
      · rw [y]; exact nt b u q
      · exact nt c _ y
  refine ⟨ps', hst', J.pins_of fun p hp => ?_⟩
  rcases List.mem_append.mp hp with hp | hp
  · have ha : p.1 ∈ K.ad := (K.on _ _ hst' p.1).mpr ⟨p.2, hp⟩
    exact ⟨hps' p hp, hN _ ha, (hA _ ha).2.1, (hA _ ha).2.2.2, K.nc _ _ hst' p hp⟩
  · exact J.pin p (List.mem_append_right _ hp)
def CY (X : Cx) (K : Eater) : Protocol := fun n s₀ v s kap =>
  ∃ ys x ip σ H, n + 1 + ys.length = sizeLine ∧ RelV x v ∧ CI X K ip ys σ H s ∧ ∀ s', Dozed K ys x s s' → kap (.send .none) s'
def CSP (X : Cx) (K : Eater) (ip : Pns) (D : GEnds) (ys : List V) (f : Flow) (s : Shared) : Prop :=
  match f with
  | .next => ∃ σ H, CI X K ip ys σ H s ∧ D.nx ys σ H
  | .brk => ∃ σ H, CI X K ip ys σ H s ∧ D.bk ys σ H
  | .cont => ∃ σ H, CI X K ip ys σ H s ∧ D.ct ys σ H
  | .ret u => ∃ v σ H, CI X K ip ys σ H s ∧ RelV v u ∧ D.rt ys v H
structure CC (X : Cx) (K : Eater) (ip : Pns) (A : Around) (c : Code) (fs : List Frame) (gd : Bool → Bool) : Prop where
  pn : ∀ p ∈ X.pn, p.1 ∉ K.ad
  ip : ∀ p ∈ ip, p.1 ∉ K.ad
  apart : ApartC X K
  over : A.over c fs = X.A
  split : splitAtGen fs = none
  guard : fs.any Frame.guarded = false
  gd : gd false = false
structure CK (X : Cx) (K : Eater) (ip : Pns) (A : Around) (R : GenEnd) (c : Code) (fs : List Frame) (k : Flow → Sem PySem.Fin) (J : Value → Sem PySem.Fin) (D : GEnds) : Prop where
  ok : ∀ (n : Nat) (ys : List V) (s₀ s : Shared) (f : Flow), n + ys.length = sizeLine → CSP X K ip D ys f s → Seg (model X.prog X.w) A R (CY X K) n s₀ c (k f) fs s
  exc : ∀ (n : Nat) (s₀ : Shared) (e : Value) (s : Shared), X.xe e s → Seg (model X.prog X.w) A R (CY X K) n s₀ c (J e) fs s
structure CS (X : Cx) (st : Stmt) (t : TGn) : Prop where
  run : ∀ (A : Around) (K : Eater) (ip : Pns) (R : GenEnd) (n : Nat) (ys : List V) (s₀ : Shared) (c : Code) (fs : List Frame) (k : Flow → Sem PySem.Fin) (J : Value → Sem PySem.Fin) (gd : Bool → Bool) (lv : List Value → List Value) (s : Shared) (σ : L2.St) (H : Hp) (D : GEnds),
    CC X K ip A c fs gd → n + ys.length = sizeLine → CK X K ip A R c fs k J D → CI X K ip ys σ H s → t D ys σ H → Seg (model X.prog X.w) A R (CY X K) n s₀ c ((exec st X.env).wrap k J gd lv) fs s
structure CSs (X : Cx) (st : List Stmt) (t : TGn) : Prop where
  run : ∀ (A : Around) (K : Eater) (ip : Pns) (R : GenEnd) (n : Nat) (ys : List V) (s₀ : Shared) (c : Code) (fs : List Frame) (k : Flow → Sem PySem.Fin) (J : Value → Sem PySem.Fin) (gd : Bool → Bool) (lv : List Value → List Value) (s : Shared) (σ : L2.St) (H : Hp) (D : GEnds),
    CC X K ip A c fs gd → n + ys.length = sizeLine → CK X K ip A R c fs k J D → CI X K ip ys σ H s → t D ys σ H → Seg (model X.prog X.w) A R (CY X K) n s₀ c ((execs st X.env).wrap k J gd lv) fs s
section
variable {X : Cx} {st : Stmt} {rest : List Stmt}
theorem sp_csp {K : Eater} {ps ip : Pns} {s : Shared} {D : GEnds} {ys : List V} {f : Flow} (r : K.st ys ps) (h : SP X (ps ++ ip) (D.at ys) f s) : CSP X K ip D ys f s := by
  cases f with
  | next => obtain ⟨σ, H, I, q⟩ := h; exact ⟨σ, H, ⟨ps, r, I⟩, q⟩
  | brk => obtain ⟨σ, H, I, q⟩ := h; exact ⟨σ, H, ⟨ps, r, I⟩, q⟩
  | cont => obtain ⟨σ, H, I, q⟩ := h; exact ⟨σ, H, ⟨ps, r, I⟩, q⟩
  | ret u => obtain ⟨v, σ, H, I, r1, q⟩ := h; exact ⟨v, σ, H, ⟨ps, r, I⟩, r1, q⟩
theorem cs_ps {t : TS} (h : PS X st t) : CS X st (tPlain t) := by
  refine ⟨fun A K ip R n ys s₀ c fs k J gd lv s σ H D g hn kk hI ht => ?_⟩
  obtain ⟨ps, r, I⟩ := hI
  refine seg_wrap ?_
  rw [g.over]
  exact wpAny_mono (h.run _ s σ H (D.at ys) I ht) (fun f s' hs => kk.ok n ys s₀ s' f hn (sp_csp r hs)) fun x s' hx => kk.exc n s₀ x s' hx
theorem css_nil : CSs X [] tG0 := ⟨fun A K ip R n ys s₀ c fs k J gd lv s σ H D g hn kk hI ht => seg_execs_nil (kk.ok n ys s₀ s .next hn ⟨σ, H, hI, ht⟩)⟩
theorem css_cons {t u : TGn} (a : CS X st t) (b : CSs X rest u) : CSs X (st :: rest) (tGThen t u) := by
  refine ⟨fun A K ip R n ys s₀ c fs k J gd lv s σ H D g hn kk hI ht => seg_execs_cons ?_⟩
  refine a.run A K ip R n ys s₀ c fs _ J gd lv s σ H { D with nx := fun ys' σ' H' => u D ys' σ' H' } g hn ⟨fun n' ys' s₀' s' f hn' hs => ?_, kk.exc⟩ hI ht
  cases f with
  | next =>
    obtain ⟨σ', H', I', q⟩ := hs
    exact b.run A K ip R n' ys' s₀' c fs k J gd lv s' σ' H' D g hn' kk I' q
  | brk => exact kk.ok n' ys' s₀' s' .brk hn' hs
  | cont => exact kk.ok n' ys' s₀' s' .cont hn' hs
  | ret u => exact kk.ok n' ys' s₀' s' (.ret u) hn' hs
theorem cs_yield {e : Expr} {yp pos : Pos} {te : TE} (he : PE X e te) (hco : X.env.scope.isCoroutine = false := by rfl) (hi : interactive X.env = false := by rfl) : CS X (.Expr (.Yield (some e) yp) pos) (tGYield te) := by
  refine ⟨fun A K ip R n ys s₀ c fs k J gd lv s σ H D g hn kk hI ht => ?_⟩
  obtain ⟨hlt, ht⟩ := ht
  obtain ⟨n, rfl⟩ : ∃ m, n = m + 1 := ⟨n - 1, by omega⟩
  obtain ⟨ps, r, I⟩ := hI
  refine seg_Expr_Yield g.split g.gd g.guard ?_ hco hi
  rw [g.over]
  refine wpAny_mono (he.run _ s σ H _ I ht) (fun v s' hv => ?_) fun x s' hx => kk.exc _ s₀ x s' hx
  obtain ⟨x, H1, I1, rv, q⟩ := hv
  have G1 : CI X K ip ys σ H1 s' := ⟨ps, r, I1⟩
  intro kap hk
  refine ⟨ys, x, ip, σ, H1, hn, rv, G1, fun s'' z => hk .none s'' ?_⟩
  refine kk.ok n (ys ++ [x]) s'' s'' .next ?_ ⟨σ, H1, G1.woken g.pn g.ip g.apart z, q⟩
  rw [List.length_append, List.length_singleton]; omega
end
end GenE
set_option Elab.async false
set_option linter.all false
set_option maxRecDepth 100000
set_option maxHeartbeats 1000000
namespace L2
open PySem PySem.Spec PyProof.Rows GenW
section
variable {prog : Program} {w : World} {A : Around} {R : GenEnd} {Y : Protocol} {n : Nat} {s₀ : Shared} {fs : List Frame} {s : Shared} {env : Env}
/-- what a loop's code does with an exception -/
def loopOut (env : Env) (e : Value) : Sem PySem.Fin := (do noteFrame e env; theTreesLotGoes e : Sem Unit).wrap (fun _ => .raise e) .raise id id
theorem seg_forLoop {target : Expr} {it : Value} {body : List Stmt}
    (h : wpAny (model prog w) (A.over (.forLoop target it body [] env) fs) (pyNext it) (fun r s1 => match r with
        | none => Seg (model prog w) A R Y n s₀ (.block [] env) ((model prog w).den (.block [] env)) fs s1
        | some v => wpAny (model prog w) (A.over (.forLoop target it body [] env) fs) (letOwnedTupleGo target it v) (fun _ s2 =>
            wpAny (model prog w) (A.over (.forLoop target it body [] env) fs) (assign target env v) (fun _ s3 =>
              Seg (model prog w) A R Y n s₀ (.forLoop target it body [] env) ((execs body env).wrap (fun f => match f with
                | .next | .cont => .pure (.again (.forLoop target it body [] env))
                | .brk => .pure (.done .next)
                | .ret v => .pure (.done (.ret v))) (loopOut env) id id) fs s3)
              (fun x s' => Seg (model prog w) A R Y n s₀ (.forLoop target it body [] env) (loopOut env x) fs s') s2)
            (fun x s' => Seg (model prog w) A R Y n s₀ (.forLoop target it body [] env) (loopOut env x) fs s') s1)
      (fun x s' => Seg (model prog w) A R Y n s₀ (.forLoop target it body [] env) (loopOut env x) fs s') s) :
    Seg (model prog w) A R Y n s₀ (.forLoop target it body [] env) ((model prog w).den (.forLoop target it body [] env)) fs s := by
  show Seg _ A R Y n s₀ _ ((forTurn target it body [] env).onRaise (fun x => do noteFrame x env; theTreesLotGoes x)) fs s
  unfold forTurn
  rw [Sem.onRaise_eq_wrap]
  have cv : ∀ x s', Seg (model prog w) A R Y n s₀ (.forLoop target it body [] env) (loopOut env x) fs s' →
      Seg (model prog w) A R Y n s₀ (.forLoop target it body [] env) ((do noteFrame x env; theTreesLotGoes x : Sem Unit).bind fun _ => .raise x) fs s' := fun x s' hx => by
    rw [Sem.bind_eq_wrap]; exact hx
  refine seg_bind_wrap (wpAny_standAt ?_)
  refine seg_bind_wrap (wpAny_onRaise (wpAny_mono h (fun r s1 h1 => ?_) fun x s' hx => wpAny_standAt (cv x s' hx)))
  cases r with
  | none => exact seg_again rfl h1
  | some v =>
    refine seg_bind_wrap (wpAny_mono h1 (fun _ s2 h2 => ?_) fun x s' hx => cv x s' hx)
    refine seg_bind_wrap (wpAny_mono h2 (fun _ s3 h3 => ?_) fun x s' hx => cv x s' hx)
    rw [Sem.bind_eq_wrap', Sem.wrap_wrap]
    rw [Sem.wrap_congr (execs body env) _ _ (K' := fun f => match f with
            | .next | .cont => .pure (.again (.forLoop target it body [] env))
            | .brk => .pure (.done .next)
            | .ret v => .pure (.done (.ret v))) (H' := loopOut env)
        (fun f => by cases f <;> rfl)
        (fun e => by first | exact Sem.bind_eq_wrap _ _ | (show (do noteFrame e env; theTreesLotGoes e : Sem Unit).bind (fun _ => .raise e) = _; rw [Sem.bind_eq_wrap]; rfl))]
    exact h3
end
section
variable {X : Cx}
def tGIf (c : TT) (t u : TGn) : TGn := fun D ys σ H => c σ H fun b H1 => if b = true then t D ys σ H1 else u D ys σ H1
def tGFor (wi : TI) (g : TG) (tb : TGn) : TGn := fun D ys σ H => wi σ H fun J H1 => ∃ W : Nat → Nat → List V → St → Hp → Prop, (∃ m, W 0 m ys σ H1) ∧ ∀ i m ys σ H, W i m ys σ H →
  (J.stop i H ∧ D.nx ys σ H) ∨ (J.go i H ∧ ∃ N : List V → St → Hp → Prop, (∀ ys' σ' H', N ys' σ' H' → ∃ m', m' < m ∧ W (i + 1) m' ys' σ' H') ∧ ∀ x H', J.yld i H x H' → g x σ H' fun σ2 H2 => tb { D with nx := N, ct := N, bk := D.nx } ys σ2 H2)
end
end L2
set_option Elab.async false
set_option linter.all false
set_option maxRecDepth 100000
set_option maxHeartbeats 1000000
namespace GenE
open PySem PySem.Spec PyProof.Rows GenW L2
section
variable {X : Cx}
theorem cs_if {c : Expr} {a b : List Stmt} {tc : TT} {t u : TGn} {pos : Pos} (hc : PT X c tc) (ha : CSs X a t) (hb : CSs X b u) : CS X (.If c a b pos) (tGIf tc t u) := by
  refine ⟨fun A K ip R n ys s₀ cd fs k J gd lv s σ H D g hn kk hI ht => ?_⟩
  obtain ⟨ps, r, I⟩ := hI
  show Seg _ _ _ _ n s₀ cd (.at pos fun _ => ((isTrue c X.env (eval c X.env) >>= fun d => if d = true then execs a X.env else execs b X.env)).wrap k J gd lv) fs s
  refine seg_at ?_
  refine seg_bind_wrap ?_
  rw [g.over]
  refine wpAny_mono (hc.run _ s σ H _ I ht) (fun d s1 hd => ?_) fun x s' hx => kk.exc n s₀ x s' hx
  obtain ⟨H1, I1, q1⟩ := hd
  cases d with
  | true => exact ha.run A K ip R n ys s₀ cd fs k J gd lv s1 σ H1 D g hn kk ⟨ps, r, I1⟩ q1
  | false => exact hb.run A K ip R n ys s₀ cd fs k J gd lv s1 σ H1 D g hn kk ⟨ps, r, I1⟩ q1
theorem cc_loop {K : Eater} {ip : Pns} {A : Around} {c c' : Code} {fs : List Frame} {gd : Bool → Bool} {k : Result → Sem PySem.Fin} {l kp : List Value} {p : Pos} (g : CC X K ip A c fs gd) (hw : c'.weight = 0) (hu : c'.cUnits = 0) :
    CC X K ip A c' (.ret k none (gd false) l c p kp :: fs) id where
  pn := g.pn
  ip := g.ip
  apart := g.apart
  over := (over_loop hw hu).trans g.over
  split := by
    show (splitAtGen fs).map _ = none
    rw [g.split]; rfl
  guard := by
    show (gd false || fs.any Frame.guarded) = false
    rw [g.gd, g.guard]; rfl
  gd := rfl
theorem seg_came {K : Eater} {ip : Pns} {A : Around} {R : GenEnd} {c : Code} {fs : List Frame} {k : Flow → Sem PySem.Fin} {J : Value → Sem PySem.Fin} {gd : Bool → Bool} {lv : List Value → List Value} {D : GEnds} {n : Nat} {s₀ s : Shared} {e : Value}
    (g : CC X K ip A c fs gd) (kk : CK X K ip A R c fs k J D) (h : cameBackBy (model X.prog X.w) X.A X.env X.xe e s) :
    Seg (model X.prog X.w) A R (CY X K) n s₀ c (((Sem.raise e : Sem Flow).onRaise (cameBack X.env)).wrap k J gd lv) fs s := by
  show Seg _ _ _ _ _ _ _ (((cameBack X.env e).bind fun _ => (Sem.raise e : Sem Flow)).wrap k J gd lv) _ _
  rw [Sem.bind_eq_wrap, Sem.wrap_wrap]
  refine seg_wrap ?_
  rw [g.over]
  exact wpAny_mono h (fun _ s' hx => kk.exc n s₀ e s' hx) fun x s' hx => kk.exc n s₀ x s' hx
theorem cs_for {tg iter : Expr} {body : List Stmt} {wi : TI} {tgt : TG} {tb : TGn} {pos : Pos} (hp : PassesOwn (model X.prog X.w) X.A X.env X.xe) (hcalm : X.calm = true) (hi : PI X tg iter wi) (hg : PG X tg tgt) (hb : CSs X body tb)
    (hs : ∀ x, foldedSetIterable iter X.env x = pure x := by intro _; rfl) : CS X (.For tg iter body [] pos) (tGFor wi tgt tb) := by
  refine ⟨fun A K ip R n ys s₀ c fs k J gd lv s σ H D g hn kk hI ht => ?_⟩
  obtain ⟨ps, r, I⟩ := hI
  rw [exec_For]
  refine seg_bind_wrap (wpAny_standAt ?_)
  refine seg_bind_wrap ?_
  rw [g.over]
  refine wpAny_mono (hi.run _ s σ H _ I ht) (fun v s1 h1 => ?_) fun x s' hx => kk.exc n s₀ x s' hx
  refine seg_bind_wrap (wpAny_of_eq (hs v) ?_)
  refine seg_bind_wrap (wpAny_standAt ?_)
  refine seg_bind_wrap (wpAny_holding ?_)
  rw [g.over]
  refine wpAny_mono h1 (fun itv s2 h2 => ?_) fun x s' hx => kk.exc n s₀ x s' hx
  obtain ⟨it, fp, tn, JJ, H2, e, I2, T, st2, f2, W, ⟨m0, w0⟩, turn⟩ := h2
  subst e
  have fS : ∀ b ∈ fp, b ∉ K.ad := fun b hb z => by
    obtain ⟨o, ho⟩ := (K.on ys ps r b).mp z
    exact (f2 b hb).2.2.2.2.2 (b, o) (List.mem_append_right _ (List.mem_append_left _ ho)) rfl
  have stat : ∀ {H' : Hp} {ys' : List V} {ps' : Pns}, K.st ys' ps' → (∀ b ∈ fp, H' b = none) → ∀ b ∈ fp, FpOk X (ps' ++ ip) H' b := fun {H' ys' ps'} r' hz b hb => by
    obtain ⟨_, q1, q2, q3, q4, q5⟩ := f2 b hb
    refine ⟨hz b hb, q1, q2, q3, q4, fun p hp => ?_⟩
    rcases List.mem_append.mp hp with z | z
    · exact q5 p (List.mem_append_left _ z)
    · rcases List.mem_append.mp z with z | z
      · exact fun y => fS b hb (y ▸ (K.on ys' ps' r' p.1).mpr ⟨p.2, z⟩)
      · exact q5 p (List.mem_append_right _ (List.mem_append_right _ z))
  refine seg_call fun p => ?_
  have gl := fun (kq : Result → Sem PySem.Fin) => cc_loop (k := kq) (c' := .forLoop tg (.ref it) body [] X.env) (l := lv []) (kp := []) (p := p) g rfl rfl
  have loop : ∀ (m i n : Nat) (ys : List V) (s₀ s : Shared) (σ : L2.St) (H : Hp), n + ys.length = sizeLine → W i m ys σ H → CI X K ip ys σ H s → tn i s.heap → (∀ b ∈ fp, H b = none) →
      Seg (model X.prog X.w) A R (CY X K) n s₀ (.forLoop tg (.ref it) body [] X.env) ((model X.prog X.w).den (.forLoop tg (.ref it) body [] X.env))
        (.ret (fun r => ((match r with | .ok f => (.pure f : Sem Flow) | .error e => .raise e).onRaise (cameBack X.env)).wrap k J gd lv) none (gd false) (lv []) c p [] :: fs) s := by
    intro m
    induction m using Nat.strongRecOn with
    | ind m ih =>
      intro i n ys s₀ s σ H hn w hI st fr
      have ee : ∀ (n : Nat) (s₀ : Shared) (x : Value) (s' : Shared), X.xe x s' → Seg (model X.prog X.w) A R (CY X K) n s₀ (.forLoop tg (.ref it) body [] X.env) (loopOut X.env x)
          (.ret (fun r => ((match r with | .ok f => (.pure f : Sem Flow) | .error e => .raise e).onRaise (cameBack X.env)).wrap k J gd lv) none (gd false) (lv []) c p [] :: fs) s' := fun n s₀ x s' hx => by
        refine seg_wrap ?_
        rw [(gl _).over]
        refine wpAny_bind (wpAny_mono (hp x s' hx) (fun _ s'' hcb => wpAny_theTreesLotGoes ?_) fun y s'' hcb => ?_)
        · exact seg_leaf (.error x) (seg_came g kk hcb)
        · exact seg_leaf (.error y) (seg_came g kk hcb)
      refine seg_forLoop ?_
      rw [(gl _).over]
      obtain ⟨ps, r, I⟩ := hI
      rcases turn i m ys σ H w with ⟨stop, qn⟩ | ⟨go, N, hN, step⟩
      · refine wpAny_mono (T.done X rfl rfl rfl hcalm i _ s σ H X.xe I (stat r fr) st stop) (fun o s4 ho => ?_) fun x s' hx => ee n s₀ x s' hx
        obtain ⟨ho, I4⟩ := ho
        subst ho
        exact seg_leaf (.ok .next) (kk.ok n ys s₀ s4 .next hn ⟨σ, H, ⟨ps, r, I4⟩, qn⟩)
      · refine wpAny_mono (T.item X rfl rfl rfl hcalm i _ s σ H X.xe I (stat r fr) st go) (fun o s4 ho => ?_) fun x s' hx => ee n s₀ x s' hx
        obtain ⟨u, ho, h4⟩ := ho
        subst ho
        refine wpAny_mono h4 (fun _ s5 h5 => ?_) fun x s' hx => ee n s₀ x s' hx
        obtain ⟨x, H5, I5, r5, y5, st5, fr5⟩ := h5
        have I5' := I5.pinned (stat r fr5) (T.obj _ _ st5)
        have ea : (ps ++ ip) ++ pinsAt fp s5.heap = ps ++ (ip ++ pinsAt fp s5.heap) := List.append_assoc ..
        refine wpAny_mono (hg.run _ s5 σ H5 x u _ I5' r5 (step x H5 y5)) (fun _ s6 h6 => ?_) fun x s' hx => ee n s₀ x s' hx
        obtain ⟨σ6, H6, I6, q6⟩ := h6
        rw [ea] at I6
        have un : ∀ {ys' : List V} {σ' : L2.St} {H' : Hp} {s' : Shared}, CI X K (ip ++ pinsAt fp s5.heap) ys' σ' H' s' → CI X K ip ys' σ' H' s' := fun ⟨p7, r7, I7⟩ => ⟨p7, r7, by
          rw [← List.append_assoc] at I7
          exact I7.unpinned⟩
        have gB := gl (fun r => ((match r with | .ok f => (.pure f : Sem Flow) | .error e => .raise e).onRaise (cameBack X.env)).wrap k J gd lv)
        refine hb.run A K (ip ++ pinsAt fp s5.heap) R n ys s₀ _ _ _ _ id id s6 σ6 H6 { D with nx := N, ct := N, bk := D.nx }
          ⟨gB.pn, fun p hp => ?_, gB.apart, gB.over, gB.split, gB.guard, gB.gd⟩ hn ⟨fun n' ys' s₀' s7 f hn' hs7 => ?_, fun n' s₀' x s7 hx => ee n' s₀' x s7 hx⟩ ⟨ps, r, I6⟩ q6
        · rcases List.mem_append.mp hp with z | z
          · exact g.ip p z
          · exact fS _ (of_pinsAt z).1
        · have back : ∀ {σ7 : L2.St} {H7 : Hp}, CI X K (ip ++ pinsAt fp s5.heap) ys' σ7 H7 s7 → N ys' σ7 H7 → Seg (model X.prog X.w) A R (CY X K) n' s₀' (.forLoop tg (.ref it) body [] X.env) ((model X.prog X.w).den (.forLoop tg (.ref it) body [] X.env))
              (.ret (fun r => ((match r with | .ok f => (.pure f : Sem Flow) | .error e => .raise e).onRaise (cameBack X.env)).wrap k J gd lv) none (gd false) (lv []) c p [] :: fs) s7 := fun {σ7 H7} G7 n7 => by
            obtain ⟨m', hm, w7⟩ := hN ys' σ7 H7 n7
            have G7' := un G7
            obtain ⟨p7, r7, I7⟩ := G7
            have pinq : ∀ q ∈ pinsAt fp s5.heap, _ := fun q hq => I7.pin q (List.mem_append_right _ (List.mem_append_right _ (List.mem_append_right _ hq)))
            refine ih m' hm (i + 1) n' ys' s₀' s7 σ7 H7 hn' w7 G7' (T.keep _ _ _ st5 fun b hb o e => (pinq (b, o) (mem_pinsAt hb e)).1) fun b hb => ?_
            obtain ⟨o, e, d⟩ := T.obj _ _ st5 b hb
            exact (pinq (b, o) (mem_pinsAt hb e)).2.1
          cases f with
          | next => obtain ⟨σ7, H7, I7, n7⟩ := hs7; exact seg_again rfl (back I7 n7)
          | cont => obtain ⟨σ7, H7, I7, n7⟩ := hs7; exact seg_again rfl (back I7 n7)
          | brk => obtain ⟨σ7, H7, I7, q7⟩ := hs7; exact seg_leaf (.ok .next) (kk.ok n' ys' s₀' s7 .next hn' ⟨σ7, H7, un I7, q7⟩)
          | ret v => obtain ⟨x7, σ7, H7, I7, r7, q7⟩ := hs7; exact seg_leaf (.ok (.ret v)) (kk.ok n' ys' s₀' s7 (.ret v) hn' ⟨x7, σ7, H7, un I7, r7, q7⟩)
  exact loop m0 0 n ys s₀ s2 σ H2 hn w0 ⟨ps, r, I2⟩ st2 fun b hb => (f2 b hb).1
end
end GenE
set_option Elab.async false
set_option linter.all false
set_option maxRecDepth 100000
set_option maxHeartbeats 1000000
namespace GenE
open PySem PySem.Spec PyProof.Rows GenW L2
/-- what stands at or behind the heap's end is nothing of the context's -/
theorem young_ok {X : Cx} {pins : Pns} {σ : L2.St} {H : Hp} {s : Shared} (I : Inv X pins σ H s) {b : Addr} (hb : s.heap.objs.size ≤ b) : H b = none ∧ b ≠ X.env.locals ∧ b ∉ X.fs ∧ ∀ y c, X.env.cells.lookup y = some c → c ≠ b := by
  refine ⟨I.hok.fresh hb, fun z => ?_, I.nofs hb, fun y c e z => ?_⟩
  · have q := I.lt
    rw [← z] at q
    exact Nat.lt_irrefl _ (Nat.lt_of_lt_of_le q hb)
  · obtain ⟨_, ob, ho, _⟩ := I.cell y c e
    have q := Heap.lt_size ho
    rw [z] at q
    exact Nat.lt_irrefl _ (Nat.lt_of_lt_of_le q hb)
/-- how a run for the eater K ends: the generator stands at a, under the number g; sc: the state at the call -/
inductive CEnd (P : Program) (w : World) (outer : List Env) (H : Hp) (sc : Shared) (K : Eater) (a : Addr) (g : Nat) (Q : List V → Hp → Prop) (E : XK) (r : Result) (s1 : Shared) : Prop
  | done (hr : r = .ok (.ret .none)) (H' : Hp) (ys : List V) (ps : Pns) (os : s1.os = sc.os) (bare : AllBare s1.gens) (un : Un (frs outer) [] H H' sc.heap s1.heap) (hok : HOk P w H' s1.heap) (fr : ∀ b ∈ K.ad, H' b = none)
      (st : K.st ys ps) (at_ : ∀ p ∈ ps, s1.heap.get? p.1 = some p.2) (le : ys.length ≤ sizeLine) (q : Q ys H')
  | fail (e : Value) (hr : r = .error e) (x : CX P w outer H sc E e s1) (gen : s1.heap.IsGen a g)
structure CItem (sc : Shared) (K : Eater) (a : Addr) (g n : Nat) (v : Value) (s1 : Shared) (kap : Resume → Shared → Prop) : Prop where
  os : s1.os = sc.os
  bare : AllBare s1.gens
  lim : s1.heap.NoLimit
  gen : s1.heap.IsGen a g
  go : ∃ ys x ps, RelV x v ∧ n + 1 + ys.length = sizeLine ∧ K.st ys ps ∧ (∀ p ∈ ps, s1.heap.get? p.1 = some p.2) ∧ ∀ s', Dozed K ys x s1 s' → kap (.send .none) s'
section
variable {P : Program} {w : World} {K : PySem.W.Frag} {mg : Str → Option Value} {base : Heap} {N ps : List Str} {qual : Str} {scope : Scope} {f : Addr} {cd : Value} {A : Around} {outer : List Env} {s s2 : Shared} {H : Hp} {E : XK} {a : Addr} {go : Obj} {g : Nat} {KE : Eater} {σ : L2.St} {p0 : Pns}
abbrev gx (P : Program) (w : World) (K : PySem.W.Frag) (mg : Str → Option Value) (base : Heap) (N : List Str) (qual : Str) (scope : Scope) (f : Addr) (cd : Value) (A : Around) (outer : List Env) (s : Shared) (H : Hp) (E : XK) (a : Addr) (go : Obj) : Cx :=
  gcxOf P w K mg base N qual scope f cd A outer s H E [(a, go)]
/-- an eater all of whose objects are younger than the generator -/
structure Fresh (a : Addr) (KE : Eater) (p0 : Pns) (s2 : Shared) : Prop where
  y : ∀ b ∈ KE.ad, a < b
  st : KE.st [] p0
  at_ : ∀ p ∈ p0, s2.heap.get? p.1 = some p.2
theorem ci_start {s1 : Shared} {σ1 : L2.St} (I1 : Inv (gcxOf P w K mg base N qual scope f cd A outer s H E []) [] σ1 H s1) (ha : s1.heap.objs.size = a) (I2 : Inv (gcxOf P w K mg base N qual scope f cd A outer s H E []) [] σ H s2) (hle : s.heap.objs.size ≤ a)
    (hg : s2.heap.get? a = some go) (hd : ∀ v, go.data ≠ .cell v) (hF : Fresh a KE p0 s2) : CI (gx P w K mg base N qual scope f cd A outer s H E a go) KE [] [] σ H s2 ∧ ApartC (gx P w K mg base N qual scope f cd A outer s H E a go) KE := by
  have yg : ∀ b, a ≤ b → _ := fun b hb => young_ok I1 (b := b) (by rw [ha]; exact hb)
  constructor
  · refine ⟨p0, hF.st, Inv.pinnedG I2 fun p hp => ?_⟩
    rw [List.append_nil] at hp
    rcases List.mem_cons.mp hp with e | hp
    · subst e
      obtain ⟨u1, u2, u3, _⟩ := yg a (Nat.le_refl _)
      exact ⟨hg, u1, u2, u3, hd⟩
    · have hk : p.1 ∈ KE.ad := (KE.on _ _ hF.st p.1).mpr ⟨p.2, hp⟩
      obtain ⟨u1, u2, u3, _⟩ := yg p.1 (Nat.le_of_lt (hF.y _ hk))
      exact ⟨hF.at_ p hp, u1, u2, u3, KE.nc _ _ hF.st p hp⟩
  · intro b hb
    have hb2 := Nat.le_of_lt (hF.y b hb)
    obtain ⟨_, u2, u3, u4⟩ := yg b hb2
    exact ⟨Nat.le_trans hle hb2, u2, u4, u3⟩
/-- what a body's run makes of its end and of what it hands out -/
theorem seg_out {Q : List V → Hp → Prop} {n : Nat} {s₀ : Shared} {c : Code} {t : Sem PySem.Fin} {fs : List Frame} (hgo : go.cls = .type "generator" ∧ go.slots = #[] ∧ ∃ nm qn, go.data = .fields #[.int g 0, nm, qn])
    (h : Seg (model P w) A (fun n s₀ r s1 => match r with
        | .ok (.ret u) => ∃ ys v ip σ H', n + ys.length = sizeLine ∧ CI (gx P w K mg base N qual scope f cd A outer s H E a go) KE ip ys σ H' s1 ∧ RelV v u ∧ v = .non ∧ Q ys H'
        | .ok _ => False
        | .error e => CX P w outer H s E e s1 ∧ s1.heap.get? a = some go) (CY (gx P w K mg base N qual scope f cd A outer s H E a go) KE) n s₀ c t fs s2) :
    Seg (model P w) A (fun _ _ r s1 => CEnd P w outer H s KE a g Q E r s1) (fun n _ v s1 kap => CItem s KE a g n v s1 kap) n s₀ c t fs s2 := by
  obtain ⟨g1, g2, nm, qn, g3⟩ := hgo
  have isg : ∀ h : Heap, h.get? a = some go → h.IsGen a g := fun h e => ⟨go, nm, qn, e, g1, g3, g2⟩
  have stands : ∀ {ip : Pns} {ys : List V} {σ' : L2.St} {H' : Hp} {s1 : Shared}, CI (gx P w K mg base N qual scope f cd A outer s H E a go) KE ip ys σ' H' s1 →
      s1.heap.get? a = some go ∧ s1.os = s.os ∧ AllBare s1.gens ∧ s1.heap.NoLimit ∧ Un (frs outer) [] H H' s.heap s1.heap ∧ HOk P w H' s1.heap ∧ (∀ b ∈ KE.ad, H' b = none) ∧ ∃ ps, KE.st ys ps ∧ ∀ p ∈ ps, s1.heap.get? p.1 = some p.2 := by
    rintro ip ys σ' H' s1 ⟨ps, hst, J⟩
    have pin : ∀ p ∈ ps, _ := fun p hp => J.pin p (List.mem_append_right _ (List.mem_append_left _ hp))
    refine ⟨(J.pin (a, go) (List.mem_append_left _ (List.mem_singleton.mpr rfl))).1, J.os, J.bare, J.nolimit, J.base, J.hok, fun b hb => ?_, ps, hst, fun p hp => (pin p hp).1⟩
    obtain ⟨o, ho⟩ := (KE.on ys ps hst b).mp hb
    exact (pin (b, o) ho).2.1
  refine seg_imp (fun n s₀ r s1 hR => ?_) (fun n s₀ v s1 kap kap' hk hY => ?_) n h
  · match r, hR with
    | .error e, ⟨x, hg⟩ => exact .fail e rfl x (isg _ hg)
    | .ok (.ret u), ⟨ys, v, ip, σ', H', hn, hI, rv, ev, hQ⟩ =>
      obtain ⟨_, b1, b2, _, b3, b4, b5, ps, b6, b7⟩ := stands hI
      subst ev
      cases (show u = Value.none from rv)
      exact .done rfl H' ys ps b1 b2 b3 b4 b5 b6 b7 (by omega) hQ
    | .ok .next, h => exact h.elim
    | .ok .brk, h => exact h.elim
    | .ok .cont, h => exact h.elim
  · obtain ⟨ys, x, ip, σ', H', hn, rx, hI, hw⟩ := hY
    obtain ⟨b0, b1, b2, b3, _, _, _, ps, b6, b7⟩ := stands hI
    exact ⟨b1, b2, b3, isg _ b0, ys, x, ps, rx, hn, b6, b7, fun s' z => hk _ _ (hw s' z)⟩
end
end GenE
set_option Elab.async false
set_option linter.all false
set_option maxRecDepth 100000
set_option maxHeartbeats 1000000
namespace GenE
open PySem PySem.Spec PyProof.Rows GenW L2
/-- u is a generator that has not begun: whoever eats it, if the eater's objects are younger, gets what sp promised -/
structure CMade (P : Program) (w : World) (k : Nat) (outer : List Env) (H : Hp) (sc : Shared) (Q : List V → Hp → Prop) (E : XK) (a : Addr) (g : Nat) (c : Code) (s' : Shared) : Prop where
  old : sc.heap.objs.size ≤ a
  lt : a < s'.heap.objs.size
  gen : s'.heap.IsGen a g
  code : s'.gens[g]? = some (.fresh c)
  os : s'.os = sc.os
  bare : AllBare s'.gens
  lim : s'.heap.NoLimit
  keep : ∀ b o, sc.heap.get? b = some o → s'.heap.get? b = some o
  wake : ∀ (A : Around) (K : Eater) (p0 : Pns) (s2 : Shared), DL.RoomG k A → A.frames = some outer → (∀ b ∈ K.ad, s'.heap.objs.size ≤ b) → (∀ b o, s'.heap.get? b = some o → s2.heap.get? b = some o) → K.st [] p0 → (∀ p ∈ p0, s2.heap.get? p.1 = some p.2) →
    s2.os = sc.os → AllBare s2.gens → Seg (model P w) A (fun _ _ r s1 => CEnd P w outer H sc K a g Q E r s1) (fun n _ v s1 kap => CItem sc K a g n v s1 kap) sizeLine s2 c ((model P w).den c) [] s2
structure CFn (P : Program) (w : World) (K : PySem.W.Frag) (mg : Str → Option Value) (base : Heap) (k : Nat) (f : Addr) (fd : FuncData) (ps : List Str) (sp : SpG) : Prop where
  len : ∀ vs H Q E, sp vs H Q E → vs.length = ps.length
  run : ∀ (A : Around) (outer : List Env) (s : Shared) (H : Hp) (args : Args) (us : List Value) (vs : List V) (Q : List V → Hp → Prop) (E : XK), DL.RoomG k A → Env0 P w K mg base A outer s H → BindsTo s fd args (ps.zip us) → Vals vs us → sp vs H Q E →
    codeAny (model P w) A (.call (.ref f) args) (fun r s' => ∃ a g c, r = .ok (.ret (.ref a)) ∧ CMade P w k outer H s Q E a g c s') s
section
variable {P : Program} {w : World} {K : PySem.W.Frag} {mg : Str → Option Value} {base : Heap} {k : Nat} {N ps : List Str} {qual : Str} {scope : Scope} {f : Addr} {cd : Value} {A : Around} {outer : List Env} {s s2 : Shared} {H : Hp} {E : XK} {a : Addr} {go : Obj} {g : Nat} {KE : Eater} {vs : List V} {p0 : Pns}
/-- the body's run -/
theorem body_seg {body : List Stmt} {t : TGn} {Q : List V → Hp → Prop} (hgo : go.cls = .type "generator" ∧ go.slots = #[] ∧ ∃ nm qn, go.data = .fields #[.int g 0, nm, qn]) (hno : a ∉ KE.ad) (ht : CSs (gx P w K mg base N qual scope f cd A outer s H E a go) body t)
    (hq : t { nx := fun ys _ H' => Q ys H', rt := fun ys v H' => v = .non ∧ Q ys H' } [] (start N vs) H) (hI : CI (gx P w K mg base N qual scope f cd A outer s H E a go) KE [] [] (start N vs) H s2) (hA : ApartC (gx P w K mg base N qual scope f cd A outer s H E a go) KE) :
    Seg (model P w) A (fun _ _ r s1 => CEnd P w outer H s KE a g Q E r s1) (fun n _ v s1 kap => CItem s KE a g n v s1 kap) sizeLine s2 (.func body (envOfC qual scope s.heap.objs.size f cd)) ((model P w).den (.func body (envOfC qual scope s.heap.objs.size f cd))) [] s2 := by
  refine seg_out (K := K) (mg := mg) (base := base) (N := N) (qual := qual) (scope := scope) (f := f) (cd := cd) hgo (seg_func ?_)
  have ctx : CC (gx P w K mg base N qual scope f cd A outer s H E a go) KE [] A (.func body (envOfC qual scope s.heap.objs.size f cd)) [] id :=
    ⟨fun p hp z => hno (by rw [List.mem_singleton.mp hp] at z; exact z), (fun _ hp => nomatch hp), hA, over_func, rfl, rfl, rfl⟩
  refine ht.run A KE [] _ sizeLine [] s2 _ [] _ _ id id s2 (start N vs) H _ ctx (Nat.add_zero _) ⟨fun n ys s₀ s' fl hn hs => ?_, fun n s₀ e s' hx => ?_⟩ hI hq
  · match fl, hs with
    | .next, ⟨σ', H', J, q⟩ => exact seg_end (.ok (.ret .none)) ⟨ys, .non, [], σ', H', hn, J, rfl, rfl, q⟩
    | .ret u, ⟨v, σ', H', J, rv, ev, q⟩ => exact seg_end (.ok (.ret u)) ⟨ys, v, [], σ', H', hn, J, rv, ev, q⟩
    | .brk, ⟨_, _, _, q⟩ => exact q.elim
    | .cont, ⟨_, _, _, q⟩ => exact q.elim
  · refine seg_wrap ?_
    rw [over_func]
    have lv : wpAny (model P w) (A.deeper (envOfC qual scope s.heap.objs.size f cd)) (leaving (envOfC qual scope s.heap.objs.size f cd) e) (fun _ s'' => CX P w outer H s E e s'' ∧ ∀ p ∈ [(a, go)], s''.heap.get? p.1 = some p.2) (fun _ _ => False) s' := hx
    exact wpAny_mono lv (fun _ s'' q => seg_end (.error e) ⟨q.1, q.2 (a, go) (List.mem_singleton.mpr rfl)⟩) fun _ _ q => q.elim
end
/-- a generator def by its body -/
theorem cfn_of {P : Program} {w : World} {K : PySem.W.Frag} {mg : Str → Option Value} {base : Heap} {k : Nat} {f : Addr} {name qual : Str} {params : Arguments} {body : List Stmt} {scope : Scope} {dV kV doc pm cdv ct oc : Value} {an od : Option Addr}
    {osl : Array (Option Value)} {N ps : List Str} {sp : SpG} (lk : K.lookup f = some ⟨oc, od, .func (PySem.W.fnOf name qual params body scope dV kV doc pm an cdv ct), osl⟩) (hcd : PySem.W.codeIn K cdv qual = true) (S : GScope N ps scope)
    (len : ∀ vs H Q E, sp vs H Q E → vs.length = ps.length)
    (hbody : ∀ (A : Around) (outer : List Env) (s : Shared) (H : Hp) (vs : List V) (Q : List V → Hp → Prop) (E : XK) (a : Addr) (go : Obj), DL.RoomG k (A.deeper (envOfC qual scope s.heap.objs.size f cdv)) → sp vs H Q E →
      ∃ t, CSs (gx P w K mg base N qual scope f cdv A outer s H E a go) body t ∧ t { nx := fun ys _ H' => Q ys H', rt := fun ys v H' => v = .non ∧ Q ys H' } [] (start N vs) H) :
    CFn P w K mg base (k + 1) f (PySem.W.fnOf name qual params body scope dV kV doc pm an cdv ct) ps sp := by
  refine ⟨len, fun A outer s H args us vs Q E hr e0 hb r hsp => ?_⟩
  have hl := len _ _ _ _ hsp
  have kin : K.In s.heap := e0.mod.kin.keeps fun b o e => (e0.bs b o e).1
  refine codeAny_call_generator hr.r.depth (kin _ _ lk) rfl S.co S.gen rfl (PySem.W.codeRec_of kin hcd) (hb _ _ _ _ ?_)
  refine wpAny_newFunctionEnv_cells S.kind (fun y hy => (S.par y.1 (List.of_mem_zip (show (y.1, y.2) ∈ ps.zip us from hy)).1).imp id fun q => ⟨q, PySem.W.cellsFrom_some _ _ _ (.inl q)⟩) fun env he s1 x => ?_
  subst he
  obtain ⟨h1, tk, es1, _⟩ := x.done
  have kp1 := x.toInCall.keep
  have lim1 : s1.heap.NoLimit := (e0.mod.nolimit.keeps fun b o e => (e0.bs b o e).1).keeps kp1
  have hle : s.heap.objs.size ≤ s1.heap.objs.size := Nat.le_of_lt x.toInCall.ns.lt
  have bare1 : AllBare s1.gens := by rw [es1]; exact e0.bare
  have os1 : s1.os = s.os := by rw [es1]
  refine ⟨lim1, ?_⟩
  have main : ∀ (go : Obj) (nm qn : Value) (tk2 : Nat), go.cls = .type "generator" → go.data = .fields #[.int s1.gens.size 0, nm, qn] → go.slots = #[] → (∀ h : Heap, (h.push go).get? h.objs.size = some go) →
      CMade P w (k + 1) outer H s Q E s1.heap.objs.size s1.gens.size (.func body (envOfC qual scope s.heap.objs.size f cdv)) { s1 with gens := s1.gens.push (.fresh (.func body (envOfC qual scope s.heap.objs.size f cdv))), toks := tk2, heap := s1.heap.push go } := fun go nm qn tk2 c1 c2 c3 c4 => by
    have up : ∀ b o, s1.heap.get? b = some o → (s1.heap.push go).get? b = some o := fun b o e => Heap.get?_push_of_some _ e
    refine { old := hle, lt := ?_, gen := ⟨go, nm, qn, c4 _, c1, c2, c3⟩, code := Array.getElem?_push_size .., os := os1, bare := AllBare.push bare1 rfl, lim := lim1.keeps up, keep := fun b o e => up b o (kp1 b o e), wake := ?_ }
    · show _ < (s1.heap.push _).objs.size
      rw [Heap.size_push]
      exact Nat.lt_succ_self _
    · intro B KE p0 s2 hrB hfr hyg hk2 hst hat hos hba
      obtain ⟨t, ht, hq⟩ := hbody B outer s H vs Q E s1.heap.objs.size go (hrB.deeper _) hsp
      have I1 : Inv (gcxOf P w K mg base N qual scope f cdv B outer s H E []) [] (start N vs) H s1 := inv_startG S hrB.r.hd ⟨hfr, e0.mod, e0.bs, e0.bsz, e0.funs, e0.frf, e0.hok, e0.bare⟩ hl r x
      have kp2 : ∀ b o, s1.heap.get? b = some o → s2.heap.get? b = some o := fun b o e => hk2 b o (up b o e)
      have I2 : Inv (gcxOf P w K mg base N qual scope f cdv B outer s H E []) [] (start N vs) H s2 := I1.call' (ch := []) (hos.trans os1.symm) (Un.kept kp2) (I1.hok.kept kp2) hba (fun b z => nomatch z)
      have fr : Fresh s1.heap.objs.size KE p0 s2 := ⟨fun b hb' => by
        have q : (s1.heap.push go).objs.size ≤ b := hyg b hb'
        rw [Heap.size_push] at q
        exact q, hst, hat⟩
      obtain ⟨hI, hA⟩ := ci_start I1 rfl I2 hle (hk2 _ _ (c4 _)) (fun v q => by rw [c2] at q; cases q) fr
      exact body_seg ⟨c1, c3, nm, qn, c2⟩ (fun z => Nat.lt_irrefl _ (fr.y _ z)) ht hq hI hA
  exact ⟨_, _, _, rfl, main _ _ _ _ rfl rfl rfl fun h => Heap.get?_push_size _ rfl⟩
end GenE
set_option Elab.async false
set_option linter.all false
set_option maxRecDepth 100000
set_option maxHeartbeats 1000000
namespace GenE
open PySem PySem.Spec PyProof.Rows GenW L2
/-- the block of names, whatever stands in it -/
def NsO (C : Addr) (o : Obj) : Prop := (∃ es ep, o.data = .dict es ep) ∧ ∀ h : Heap, h.get? C = some o → ∃ m, h.Ns C m
theorem nsO_of {h : Heap} {C : Addr} {m : Str → Option Value} (n : h.Ns C m) : ∃ o, h.get? C = some o ∧ NsO C o := by
  obtain ⟨o, es, ep, e, d, k, f⟩ := n
  exact ⟨o, e, ⟨es, ep, d⟩, fun h' e' => ⟨m, o, es, ep, e', d, k, f⟩⟩
/-- the comprehension: its list at D, its names at C -/
def lcE (D C : Addr) (hne : D ≠ C) : Eater where
  ad := [D, C]
  st := fun ys ps => ∃ (acc : Array Value) (n : Nat) (o : Obj), Vals ys acc.toList ∧ NsO C o ∧ ps = [(D, lstObj acc n), (C, o)]
  on := by
    rintro ys ps ⟨acc, n, o, _, _, rfl⟩ a
    simp only [List.mem_cons, List.not_mem_nil, or_false, Prod.mk.injEq]
    constructor
    · rintro (rfl | rfl)
      · exact ⟨_, .inl ⟨rfl, rfl⟩⟩
      · exact ⟨_, .inr ⟨rfl, rfl⟩⟩
    · rintro ⟨_, ⟨rfl, _⟩ | ⟨rfl, _⟩⟩
      · exact .inl rfl
      · exact .inr rfl
  nc := by
    rintro ys ps ⟨acc, n, o, _, ⟨⟨es, ep, d⟩, _⟩, rfl⟩ p hp v
    simp only [List.mem_cons, List.not_mem_nil, or_false] at hp
    rcases hp with rfl | rfl
    · intro z; cases z
    · rw [d]; intro z; cases z
section
variable {M : Model} {P : Program} {w : World} {A : Around} {E : Value → Shared → Prop} {cenv : Env} {x : Str} {p1 p2 : Pos} {D C : Addr} {hne : D ≠ C}
/-- an item is taken over -/
theorem lc_take {s1 : Shared} {ys : List V} {xv : V} {v : Value} {ps : Pns} {Q : Shared → Prop} (hC : cenv.locals = C) (hk : cenv.scope.kind = .function) (hx : cenv.kindOf x = some .local) (hd : (x == ("__debug__" : Str)) = false)
    (hp : (cenv.scope.kind == .class || (cenv.scope.kind == .module && cenv.locals != cenv.globals)) = false) (hlen : ys.length < sizeLine) (rv : RelV xv v) (hst : (lcE D C hne).st ys ps) (hat : ∀ p ∈ ps, s1.heap.get? p.1 = some p.2) (hb : AllBare s1.gens)
    (h : ∀ s', Dozed (lcE D C hne) ys xv s1 s' → s'.gens = s1.gens → (∀ b o, b ∉ [D, C] → s1.heap.get? b = some o → s'.heap.get? b = some o) → Q s') :
    wpAny (model P w) A (assign (.Name x p2) cenv v) (fun _ s₂ =>
      wpAny (model P w) A (forIn ([] : List Expr) true fun c r => if r = true then do let ok ← isTrue c cenv (eval c cenv); pure (ForInStep.yield ok) else pure (ForInStep.yield r)) (fun ok s₃ =>
        if ok = true then wpAny (model P w) A (eval (.Name x p1) cenv) (fun y s₄ => wpAny (model P w) A (call (.builtin "list.append") [.ref D, y]) (fun _ s₅ => Q s₅) E s₄) E s₃ else Q s₃) E s₂) E s1 := by
  obtain ⟨acc, n, o, hv, no, rfl⟩ := hst
  have eD : s1.heap.get? D = some (lstObj acc n) := hat (D, lstObj acc n) (by simp)
  have eC : s1.heap.get? C = some o := hat (C, o) (by simp)
  obtain ⟨m, hn⟩ := no.2 s1.heap eC
  have hsz : acc.size < sizeLine := by
    have := hv.length
    simp only [Array.length_toList] at this
    omega
  refine wpAny_assign_Name (wpAny_storeName_local hx (by rw [hC]; exact hn) (fun h2 hn2 hs2 => ?_) hp)
  rw [hC] at hn2 hs2
  refine wpAny_tests_nil ?_
  rw [if_pos rfl, eval_Name _ _ _ hd]
  refine wpAny_bind (wpAny_standAt ?_)
  refine wpAny_loadName_local (v := v) hk hx (m := fun z => if z = x then some v else m z) (by rw [hC]; exact hn2) (by simp) ?_
  have eD2 : h2.get? D = some (lstObj acc n) := (hs2.2 D hne).trans eD
  refine append_at (hsz := Nat.le_of_lt hsz) eD2 fun h3 sb3 e3 => ?_
  have hn3 : h3.Ns C _ := hn2.sameBut sb3 (Ne.symm hne)
  obtain ⟨o3, eC3, no3⟩ := nsO_of hn3
  have kp : ∀ b q, b ∉ [D, C] → s1.heap.get? b = some q → h3.get? b = some q := fun b q hbn e => by
    have b1 : b ≠ D := fun z => hbn (by simp [z])
    have b2 : b ≠ C := fun z => hbn (by simp [z])
    exact (sb3.2 b b1).trans ((hs2.2 b b2).trans e)
  refine h _ ⟨rfl, hb, kp, fun ps' hst' hat' => ?_⟩ rfl kp
  obtain ⟨acc', n', o', hv', no', rfl⟩ := hst'
  have eq : lstObj acc' n' = lstObj acc n := Option.some.inj ((hat' (D, lstObj acc' n') (by simp)).symm.trans eD)
  have e1 : acc' = acc := by
    have := congrArg Obj.data eq
    simpa using (Data.seq.inj this).1
  subst e1
  refine ⟨[(D, lstObj (acc'.push v) (n + 1)), (C, o3)], ⟨_, _, o3, ?_, no3, rfl⟩, fun p hp' => ?_⟩
  · rw [Array.toList_push]
    exact hv'.append (.cons rv .nil)
  · simp only [List.mem_cons, List.not_mem_nil, or_false] at hp'
    rcases hp' with rfl | rfl
    · exact e3
    · exact eC3
end
end GenE
set_option Elab.async false
set_option linter.all false
set_option maxRecDepth 100000
set_option maxHeartbeats 1000000
namespace GenE
open PySem PySem.Spec PyProof.Rows GenW L2
theorem Dozed.of {K : Eater} {ys : List V} {x : V} {s t s' t' : Shared} (h : Dozed K ys x s s') (e1 : t.heap = s.heap) (e2 : t.os = s.os) (e3 : t'.heap = s'.heap) (e4 : t'.os = s'.os) (hb : AllBare t'.gens) : Dozed K ys x t t' where
  os := by rw [e4, e2]; exact h.os
  bare := hb
  keep := fun b o hbn e => by rw [e3]; exact h.keep b o hbn (by rw [← e1]; exact e)
  own := fun ps hst hat => by
    obtain ⟨ps', q1, q2⟩ := h.own ps hst fun p hp => by rw [← e1]; exact hat p hp
    exact ⟨ps', q1, fun p hp => by rw [e3]; exact q2 p hp⟩
theorem cx_never {P : Program} {w : World} {outer : List Env} {H : Hp} {s s' : Shared} {e : Value} (h : CX P w outer H s (fun _ _ _ => False) e s') : False := by
  obtain ⟨a, B, H', cls, d, z1, fl, z2, ub, z3, z4, z5, z6⟩ := id h
  first | exact z6 | exact z5 | exact z4 | exact z6.1 | exact z6.2
/-- what stands at the end -/
structure LcEnd (P : Program) (w : World) (outer : List Env) (H : Hp) (sc : Shared) (K : Eater) (Q : List V → Hp → Prop) (H' : Hp) (ys : List V) (ps : Pns) (s1 : Shared) : Prop where
  os : s1.os = sc.os
  bare : AllBare s1.gens
  un : Un (frs outer) [] H H' sc.heap s1.heap
  hok : HOk P w H' s1.heap
  fr : ∀ b ∈ K.ad, H' b = none
  st : K.st ys ps
  at_ : ∀ p ∈ ps, s1.heap.get? p.1 = some p.2
  le : ys.length ≤ sizeLine
  q : Q ys H'
section
variable {P : Program} {w : World} {outer : List Env} {H : Hp} {sc : Shared} {Q : List V → Hp → Prop} {A : Around} {a : Addr} {g : Nat} {cenv : Env} {x : Str} {p1 p2 : Pos} {D C : Addr} {hne : D ≠ C} {iter : Expr} {scope : Scope} {pos : Pos} {R : Result → Shared → Prop}
/-- the generator's end, as next() wants it -/
abbrev RG (P : Program) (w : World) (outer : List Env) (H : Hp) (sc : Shared) (K : Eater) (Q : List V → Hp → Prop) : GenEnd := fun n s₀ r s1 =>
  ((r = .ok (.ret .none) ∨ r = .ok .next) ∧ ∃ H' ys ps, LcEnd P w outer H sc K Q H' ys ps s1) ∨ ∃ e, r = .error e ∧ False
abbrev YG (sc : Shared) (K : Eater) (a : Addr) (g : Nat) : Protocol := fun n _ v s1 kap => CItem sc K a g n v s1 kap
theorem lc_drain (hC : cenv.locals = C) (hk : cenv.scope.kind = .function) (hx : cenv.kindOf x = some .local) (hdb : (x == ("__debug__" : Str)) = false)
    (hp : (cenv.scope.kind == .class || (cenv.scope.kind == .module && cenv.locals != cenv.globals)) = false) (hh : A.handled = none) (hd : A.depth < recursionLimit) (haD : a ≠ D) (haC : a ≠ C) (hsD : cStatics ≠ D) (hsC : cStatics ≠ C)
    (hend : ∀ s' H' ys ps, LcEnd P w outer H sc (lcE D C hne) Q H' ys ps s' → R (.ok .next) s')
    (n : Nat) (s : Shared) (hg : s.heap.IsGen a g) (hl : s.heap.NoLimit) (hgo : ∃ gs, s.gens[g]? = some gs ∧ gs.Goes (model P w) A.in1 (RG P w outer H sc (lcE D C hne) Q) (YG sc (lcE D C hne) a g) n (.send .none) (s.setGen g .running)) :
    codeAny (model P w) A (.compLoop (.ListComp (.Name x p1) [⟨.Name x p2, iter, [], 0⟩] scope pos) 0 (.ref a) (.ref D) cenv) R s := by
  refine codeAny_compLoop_tests (fun n s => s.heap.IsGen a g ∧ s.heap.NoLimit ∧ ∃ gs, s.gens[g]? = some gs ∧ gs.Goes (model P w) A.in1 (RG P w outer H sc (lcE D C hne) Q) (YG sc (lcE D C hne) a g) n (.send .none) (s.setGen g .running)) ?_ n ⟨hg, hl, hgo⟩
  rintro n s ⟨hg, hl, gs, hgs, hgo⟩
  have hgl : g < s.gens.size := (Array.getElem?_eq_some_iff.mp hgs).1
  refine wpAny_gsz (n := g + 1) hgl (next_genG (A := A) hh hl hd hg hgs hgo (fun v s1 gs' hbare hv => ?_) (fun s1 hF h' hkp => ?_) fun e s1 he => he.elim)
  · intro hsz
    obtain ⟨os1, hb1, hl1, hg1, ys, xv, ps, rv, hlen, hst, hat, hkap⟩ := hv
    have hsz1 : g < s1.gens.size := by
      have q : (s1.setGen g gs').gens.size = s1.gens.size := setGen_size _ _ _
      have hsz' : g + 1 ≤ (s1.setGen g gs').gens.size := hsz
      omega
    refine lc_take (ps := ps) hC hk hx hdb hp (by omega) rv hst hat (allBare_setGen hb1 hbare) fun s' hz hgens hkeep => ?_
    cases n with
    | zero =>
      exact False.elim (hkap s' (hz.of rfl rfl rfl rfl hz.bare))
    | succ m =>
      refine ⟨m, Nat.lt_succ_self _, ?_, ?_, gs', by rw [hgens]; exact setGen_at hsz1, ?_⟩
      · obtain ⟨o, nm, qn, ho, r⟩ := hg1
        exact ⟨o, nm, qn, hkeep a o (by simp [haD, haC]) ho, r⟩
      · obtain ⟨mc, hns, hnn⟩ := hl1
        exact ⟨mc, hns.at' fun o e => hkeep _ o (by simp [hsD, hsC]) e, hnn⟩
      · exact hkap (s'.setGen g .running) (hz.of rfl rfl rfl rfl (allBare_setGen hz.bare rfl))
  · intro _
    obtain ⟨H', ys, ps, L⟩ := hF
    exact hend _ H' ys ps ⟨L.os, allBare_setGen L.bare rfl, L.un.trans (Un.kept hkp), L.hok.kept hkp, L.fr, L.st, fun p hp => hkp _ _ (L.at_ p hp), L.le, L.q⟩
end
end GenE
set_option Elab.async false
set_option linter.all false
set_option maxRecDepth 100000
set_option maxHeartbeats 1000000
namespace GenE
open PySem PySem.Spec PyProof.Rows GenW L2
/-- an expression whose value is a generator that has not begun, for any eater -/
structure PGenC (X : Cx) (k : Nat) (e : Expr) (tg : TGen) (E : XK) : Prop where
  run : ∀ (pins : List (Addr × Obj)) (s : Shared) (σ : L2.St) (H : Hp) (cont : List V → Hp → Prop), Inv X pins σ H s → tg σ H cont → wpAny (model X.prog X.w) X.A (eval e X.env)
    (fun u s' => ∃ H1 sc a g c, u = .ref a ∧ Inv X pins σ H1 sc ∧ CMade X.prog X.w k X.stack H1 sc cont E a g c s') X.xe s
theorem run_cfn {X : Cx} {k : Nat} {f : Addr} {fd : FuncData} {ps : List Str} {sp : SpG} {dvs : List V} {ds : List Value} {pins : List (Addr × Obj)} {σ : L2.St} {H : Hp} {s : Shared} {us : List Value} {vs : List V} {cont : List V → Hp → Prop} {E : XK} {E1 : Value → Shared → Prop}
    (F : CFn X.prog X.w X.K X.mg X.base k f fd ps sp) (hr : DL.RoomG k X.A) (hb : Binds X.K fd ps ds) (hd : Vals dvs ds) (I : Inv X pins σ H s) (r : Vals vs us) (h : sp (vs ++ dvs) H cont E) :
    wpAny (model X.prog X.w) X.A (call (.ref f) us) (fun u s' => ∃ H1 sc a g c, u = .ref a ∧ Inv X pins σ H1 sc ∧ CMade X.prog X.w k X.stack H1 sc cont E a g c s') E1 s := by
  have r2 : Vals (vs ++ dvs) (us ++ ds) := r.append hd
  have hl2 : (us ++ ds).length = ps.length := by rw [← r2.length]; exact F.len _ _ _ _ h
  refine wpAny_call (codeAny_mono (F.run X.A X.stack s H ⟨us, []⟩ (us ++ ds) (vs ++ dvs) cont E hr I.env0 (hb s us I.kIn hl2) r2 h) fun r s' hq => ?_)
  obtain ⟨a, g, c, rfl, hq⟩ := hq
  exact ⟨H, s, a, g, c, rfl, I, hq⟩
section
variable {X : Cx} {k : Nat}
theorem pe_lcG {x : Str} {p1 p2 pos : Pos} {iter : Expr} {scope : Scope} {tg : TGen} (h : PGenC X k iter tg (fun _ _ _ => False)) (hr : DL.RoomG (k + 1) X.A) (hkind : scope.kind = .function) (hsn : scope.names = [((".0" : Str), .local), (x, .local)]) (hdb : (x == ("__debug__" : Str)) = false)
    (hs : ∀ x, foldedSetIterable iter X.env x = pure x := by intro _; rfl) :
    PE X (.ListComp (.Name x p1) [⟨.Name x p2, iter, [], 0⟩] scope pos) (tListG tg) := by
  refine ⟨fun pins s σ H Q I hq => ?_⟩
  rw [eval_ListComp]
  have hfree : ∀ y ∈ scope.names, y.2 = .free → ∃ c, X.env.cells.lookup y.1 = some c := fun y hy e => by
    rw [hsn] at hy
    simp only [List.mem_cons, List.not_mem_nil, or_false] at hy
    rcases hy with rfl | rfl <;> cases e
  have hlk : ∀ y : Str, (y, NameKind.local) ∈ scope.names → scope.names.lookup y = some .local := fun y hy => by
    rw [hsn] at hy ⊢
    simp only [List.mem_cons, List.not_mem_nil, or_false, Prod.mk.injEq, and_true] at hy
    rw [List.lookup_cons]
    cases hq : y == (".0" : Str) with
    | true => rfl
    | false =>
      rcases hy with rfl | rfl
      · exact absurd hq (by decide)
      · simp
  refine wpAny_comprehension_free (use := none) rfl hs (closure_ok hfree) hkind (fun y hy e => hlk y.1 (by rw [← e]; exact hy))
    (thn (h.run pins s σ H _ I hq) fun xv s1 hx => ?_)
  obtain ⟨H1, sc, a, g, c, rfl, I1, G⟩ := hx
  refine wpAny_pyIter_gen G.gen ?_
  refine wpAny_newObj_type (newEnv_comp ?_) (by show 0 ≤ sizeLine; decide)
  generalize hD : s1.heap.objs.size = D
  generalize hs3 : ({ s1 with heap := s1.heap.push { cls := .type "list", data := .seq ([] : List Value).toArray } } : Shared) = s3
  have h3 : s3.heap = s1.heap.push { cls := .type "list", data := .seq ([] : List Value).toArray } := by rw [← hs3]
  have z3 : s3.heap.objs.size = D + 1 := by rw [h3, Heap.size_push, hD]
  generalize hC : s3.heap.objs.size = C
  have hpc : ∀ h : Heap, pushCells h scope.names = h := fun h => by rw [hsn]; rfl
  rw [hpc]
  generalize hcs : cellsFrom (C + 1) scope.names (cloFrom X.env.cells scope.names []) = cl
  show codeAny _ _ (.compStart (.ListComp (.Name x p1) [⟨.Name x p2, iter, [], 0⟩] scope pos) 0 (.ref a) (.ref D) (compEnvC scope cl C X.env)) (compPost (model X.prog X.w) X.A X.xe none _ (.ref D) C) { s3 with heap := s3.heap.push { cls := .type "dict", data := .dict #[] } }
  generalize hs4 : ({ s3 with heap := s3.heap.push { cls := .type "dict", data := .dict #[] } } : Shared) = s4
  have h4 : s4.heap = s3.heap.push { cls := .type "dict", data := .dict #[] } := by rw [← hs4]
  have g4 : s4.gens = s1.gens := by rw [← hs4, ← hs3]
  have o4 : s4.os = s1.os := by rw [← hs4, ← hs3]
  have kp : ∀ b o, s1.heap.get? b = some o → s4.heap.get? b = some o := fun b o e => by rw [h4]; exact Heap.get?_push_of_some _ (by rw [h3]; exact Heap.get?_push_of_some _ e)
  have eD : s4.heap.get? D = some (lstObj #[] 0) := by rw [h4]; exact Heap.get?_push_of_some _ (by rw [h3, ← hD]; exact Heap.get?_push_size _ rfl)
  have eC : s4.heap.Ns C (fun _ => none) := by rw [h4, ← hC]; exact Heap.Ns.new ..
  obtain ⟨oC, eoC, nsC⟩ := nsO_of eC
  have hDC : D ≠ C := by rw [← hC, z3]; omega
  have haD : a < D := by rw [← hD]; exact G.lt
  have hst : cStatics < s1.heap.objs.size := let ⟨_, hn, _⟩ := G.lim; hn.lt
  have gen4 : s4.heap.IsGen a g := G.gen.keeps kp
  have lim4 : s4.heap.NoLimit := G.lim.keeps kp
  have hsc : sc.heap.objs.size ≤ D := Nat.le_trans G.old (Nat.le_of_lt haD)
  have loop : codeAny (model X.prog X.w) X.A (.compLoop (.ListComp (.Name x p1) [⟨.Name x p2, iter, [], 0⟩] scope pos) 0 (.ref a) (.ref D) (compEnvC scope cl C X.env)) (compPost (model X.prog X.w) X.A X.xe none (fun u s' => ∃ x H', Inv X pins σ H' s' ∧ RelV x u ∧ Q x H') (.ref D) C) s4 := by
    have hC1 : C = D + 1 := hC.symm.trans z3
    refine lc_drain (P := X.prog) (w := X.w) (outer := X.stack) (H := H1) (sc := sc) (Q := fun out H2 => ∀ p, H2 p = none → Q (.ref p) (upd H2 p (.lst out))) (hne := hDC) (cenv := compEnvC scope cl C X.env) rfl hkind ?_ hdb ?_ hr.r.hd (by have := hr.r.dp; omega) (Nat.ne_of_lt haD) (by rw [hC1]; exact Nat.ne_of_lt (Nat.lt_succ_of_lt haD)) (by rw [← hD]; exact Nat.ne_of_lt hst) (by rw [hC1, ← hD]; exact Nat.ne_of_lt (Nat.lt_succ_of_lt hst)) (fun s' H' ys ps L => ?_) sizeLine s4 gen4 lim4
      ⟨.fresh c, by rw [g4]; exact G.code, rfl, ?_⟩
    · show Env.kindOf (compEnvC scope cl C X.env) x = some .local
      exact lookup_relabel_local (env := X.env) (hlk x (by rw [hsn]; simp))
    · show (scope.kind == .class || (scope.kind == .module && _)) = false
      rw [hkind]; rfl
    · obtain ⟨acc, n, o, hv, no, eps⟩ := L.st
      have at1 : s'.heap.get? D = some (lstObj acc n) := L.at_ (D, lstObj acc n) (by rw [eps]; simp)
      have at2 : s'.heap.get? C = some o := L.at_ (C, o) (by rw [eps]; simp)
      obtain ⟨m, hn⟩ := no.2 s'.heap at2
      have nD : H' D = none := L.fr D (by simp [lcE])
      have nC : H' C = none := L.fr C (by simp [lcE])
      have I2 : Inv X pins σ (upd H' D (.lst ys)) s' := I1.drained hsc L.le at1 hv ExOk.nil L.os L.bare L.un L.hok nD
      have f := I1.fpOk (b := C) (H' := upd H' D (.lst ys)) (by rw [hC1]; exact Nat.le_succ_of_le hsc) (by rw [upd_ne (Ne.symm hDC)]; exact nC)
      obtain ⟨f0, f1, f2, f3, f4, f5⟩ := f
      exact ⟨m, hn, fun h' sb => ⟨.ref D, upd H' D (.lst ys), I2.turned (t' := s'.toks) (fun b o hb e => (sb.2 b hb).trans e) f0 f1 f3 f4 f5, rfl, L.q D nD⟩⟩
    · have W := G.wake X.A.in1 (lcE D C hDC) [(D, lstObj #[] 0), (C, oC)] (s4.setGen g .running) hr.in1 I1.ok.frames (fun b hb => ?_) kp ⟨_, _, _, .nil, nsC, rfl⟩ (fun p hp => ?_) (o4.trans G.os) (allBare_setGen (by rw [g4]; exact G.bare) rfl)
      · refine seg_imp (fun n s₀ r s1 hR => ?_) (fun n s₀ v s1 kap kap' hk hY => ?_) _ W
        · cases hR with
          | done hr H' ys ps os bare un hok fr st at_ le q => exact .inl ⟨.inl hr, H', ys, ps, os, bare, un, hok, fr, st, at_, le, q⟩
          | fail e hr x gen => exact (cx_never x).elim
        · obtain ⟨q1, q2, q3, q4, ys, xv, ps, q5, q6, q7, q8, q9⟩ := hY
          exact ⟨q1, q2, q3, q4, ys, xv, ps, q5, q6, q7, q8, fun s' z => hk _ _ (q9 s' z)⟩
      · simp only [lcE, List.mem_cons, List.not_mem_nil, or_false] at hb
        rcases hb with rfl | rfl
        · exact Nat.le_of_eq hD
        · rw [hC1, hD]; exact Nat.le_succ _
      · simp only [List.mem_cons, List.not_mem_nil, or_false] at hp
        rcases hp with rfl | rfl
        · exact eD
        · exact eoC
  exact codeAny_compStart_list loop (wpAny_pyIter_gen gen4 loop)
end
end GenE
set_option Elab.async false
set_option linter.all false
set_option maxRecDepth 100000
set_option maxHeartbeats 4000000
namespace DL
open PySem PySem.Spec PyProof.Rows L2 GenE
inductive YOut where
  | nx (zs : List Dat) (ρ : Rho) (μ : List Cel) | raise (e : Exn) (ρ : Rho) (μ : List Cel) | stuck
abbrev YX := List Dat → Rho → List Cel → YOut
def YOut.bind (o : YOut) (f : YX) : YOut := match o with
  | .nx zs ρ μ => f zs ρ μ
  | .raise e ρ μ => .raise e ρ μ
  | .stuck => .stuck
@[simp] theorem ybind_nx (zs : List Dat) (ρ : Rho) (μ : List Cel) (f : YX) : (YOut.nx zs ρ μ).bind f = f zs ρ μ := rfl
@[simp] theorem ybind_raise (e : Exn) (ρ : Rho) (μ : List Cel) (f : YX) : (YOut.raise e ρ μ).bind f = .raise e ρ μ := rfl
@[simp] theorem ybind_stuck (f : YX) : (YOut.stuck).bind f = .stuck := rfl
/-- an expression's outcome within a generator's statement -/
def Out.ybind {τ : Type} (o : Out τ) (ρ : Rho) (f : τ → List Cel → YOut) : YOut := match o with
  | .ok v μ => f v μ
  | .raise e μ => .raise e ρ μ
  | .stuck => .stuck
/-- a plain statement's outcome within a generator -/
def SOut.ybind (o : SOut) (f : Rho → List Cel → YOut) : YOut := match o with
  | .nx ρ μ => f ρ μ
  | .rt _ _ => .stuck
  | .raise e ρ μ => .raise e ρ μ
  | .stuck => .stuck
def YOk (K : Fr) (F : Hp) (α : List Addr) (o : YOut) (nx : List V → St → Hp → Prop) (W : WX) : Prop := match o with
  | .nx zs ρ' μ' => ∀ ys σ' F' α' H', Grow F α F' α' → Mem K F' H' α' μ' → Slots K F' α' ρ' σ' → Reps K F' zs ys → nx ys σ' H'
  | .raise e ρ' μ' => ∀ cls dx σ' F' α' H', Grow F α F' α' → Mem K F' H' α' μ' → Slots K F' α' ρ' σ' → ExnRep K F' e cls dx → W cls dx σ' H'
  | .stuck => False
section
variable {K : Fr} {F F' H : Hp} {α α' : List Addr} {o : YOut} {nx nx' : List V → St → Hp → Prop} {W : WX}
theorem YOk.grow (g : Grow F α F' α') (h : YOk K F α o nx W) : YOk K F' α' o nx W := by
  cases o with
  | nx zs ρ μ => exact fun ys σ F2 α2 H2 g2 m s => h ys σ F2 α2 H2 (g.trans g2) m s
  | raise e ρ μ => exact fun cls dx σ F2 α2 H2 g2 m s => h cls dx σ F2 α2 H2 (g.trans g2) m s
  | stuck => exact h
theorem YOk.bind {f : YX} (h : YOk K F α (o.bind f) nx W) (k : ∀ zs ys ρ σ F1 α1 μ1 H1, Grow F α F1 α1 → Mem K F1 H1 α1 μ1 → Slots K F1 α1 ρ σ → Reps K F1 zs ys → YOk K F1 α1 (f zs ρ μ1) nx W → nx' ys σ H1) : YOk K F α o nx' W := by
  cases o with
  | nx zs ρ μ => exact fun ys σ F2 α2 H2 g2 m s r => k zs ys ρ σ F2 α2 μ H2 g2 m s r (YOk.grow g2 h)
  | raise e ρ μ => exact h
  | stuck => exact h
theorem YOk.ebind {τ ω : Type} {R : Hp → List Addr → τ → ω → Prop} {o : Out τ} {ρ : Rho} {σ : St} {f : τ → List Cel → YOut} {Q' : ω → Hp → Prop} (s : Slots K F α ρ σ) (h : YOk K F α (o.ybind ρ f) nx W)
    (k : ∀ v u F1 α1 μ1 H1, Grow F α F1 α1 → Mem K F1 H1 α1 μ1 → R F1 α1 v u → YOk K F1 α1 (f v μ1) nx W → Q' u H1) : OutOk R K F α o Q' (fun cls dx H' => W cls dx σ H') := by
  cases o with
  | ok v μ1 => exact fun u F1 α1 H1 g m r => k v u F1 α1 μ1 H1 g m r (YOk.grow g h)
  | raise e μ1 => exact fun cls dx F1 α1 H1 g m r => h cls dx σ F1 α1 H1 g m (s.grow g) r
  | stuck => exact h
theorem YOk.pbind {o : SOut} {f : Rho → List Cel → YOut} {nx' : St → Hp → Prop} {rt : VK} (h : YOk K F α (o.ybind f) nx W) (k : ∀ ρ σ F1 α1 μ1 H1, Grow F α F1 α1 → Mem K F1 H1 α1 μ1 → Slots K F1 α1 ρ σ → YOk K F1 α1 (f ρ μ1) nx W → nx' σ H1) : SOk K F α o nx' rt W := by
  cases o with
  | nx ρ μ => exact fun σ F2 α2 H2 g2 m s => k ρ σ F2 α2 μ H2 g2 m s (YOk.grow g2 h)
  | rt v μ => exact h.elim
  | raise e ρ μ => exact h
  | stuck => exact h
theorem YOk.here {zs : List Dat} {ys : List V} {ρ : Rho} {μ : List Cel} {σ : St} (h : YOk K F α (.nx zs ρ μ) nx W) (m : Mem K F H α μ) (s : Slots K F α ρ σ) (r : Reps K F zs ys) : nx ys σ H := h ys σ F α H Grow.refl m s r
end
def tYX (K : Fr) (W : WX) (g : YX) : TGn := fun D ys σ H => ∃ F α ρ μ zs, Mem K F H α μ ∧ Slots K F α ρ σ ∧ Reps K F zs ys ∧ YOk K F α (g zs ρ μ) D.nx W
structure DY (X : Cx) (W : WX) (st : Stmt) (g : YX) : Prop where
  gs : CS X st (tYX X.K W g)
structure DYs (X : Cx) (W : WX) (st : List Stmt) (g : YX) : Prop where
  gss : CSs X st (tYX X.K W g)
theorem _root_.GenE.CS.of {X : Cx} {st : Stmt} {t t' : TGn} (h : CS X st t) (i : ∀ D ys σ H, t' D ys σ H → t D ys σ H) : CS X st t' :=
  ⟨fun A K ip R n ys s₀ c fs k J gd lv s σ H D g hn kk hI ht => h.run A K ip R n ys s₀ c fs k J gd lv s σ H D g hn kk hI (i D ys σ H ht)⟩
theorem _root_.GenE.CSs.of {X : Cx} {st : List Stmt} {t t' : TGn} (h : CSs X st t) (i : ∀ D ys σ H, t' D ys σ H → t D ys σ H) : CSs X st t' :=
  ⟨fun A K ip R n ys s₀ c fs k J gd lv s σ H D g hn kk hI ht => h.run A K ip R n ys s₀ c fs k J gd lv s σ H D g hn kk hI (i D ys σ H ht)⟩
def ySkip : YX := fun zs ρ μ => .nx zs ρ μ
def ySeq (a b : YX) : YX := fun zs ρ μ => (a zs ρ μ).bind b
def yPl (b : SX) : YX := fun zs ρ μ => (b ρ μ).ybind fun ρ μ => .nx zs ρ μ
def yIf (c : TX) (a b : YX) : YX := fun zs ρ μ => (c ρ μ).ybind ρ fun x μ => if x then a zs ρ μ else b zs ρ μ
def yOut (zs : List Dat) (ρ : Rho) (v : DV) (μ : List Cel) : YOut := match v with
  | .d d => .nx (zs ++ [d]) ρ μ
  | _ => .stuck
def yYield (x : EX) : YX := fun zs ρ μ => if zs.length < LIM then (x ρ μ).ybind ρ fun v μ => yOut zs ρ v μ else .stuck
def yForL (g : GX) (b : YX) : List Dat → YX
  | [], zs, ρ, μ => .nx zs ρ μ
  | d :: ds, zs, ρ, μ => ((g (.d d) ρ μ).ybind fun ρ μ => b zs ρ μ).bind (yForL g b ds)
def yFor (it : IX) (g : GX) (b : YX) : YX := fun zs ρ μ => (it ρ μ).ybind ρ fun ds μ => yForL g b ds zs ρ μ
section
variable {X : Cx} {W : WX} {pos yp : Pos} {st : Stmt} {sts : List Stmt} {g g' : YX} {e c : Expr} {x : EX} {t : TX} {p : SX}
theorem dy_pl (h : DS X W st p) : DY X W st (yPl p) := ⟨CS.of (cs_ps h.ps) fun D ys σ H ⟨F, α, ρ, μ, zs, m, s, r, o⟩ =>
  ⟨F, α, ρ, μ, m, s, YOk.pbind o fun ρ1 σ1 F1 α1 μ1 H1 g1 m1 s1 o1 => YOk.here o1 m1 s1 (r.le g1.f)⟩⟩
theorem dys_nil : DYs X W [] ySkip := ⟨CSs.of css_nil fun D ys σ H ⟨F, α, ρ, μ, zs, m, s, r, o⟩ => YOk.here o m s r⟩
theorem dys_cons (h : DY X W st g) (hs : DYs X W sts g') : DYs X W (st :: sts) (ySeq g g') := ⟨CSs.of (css_cons h.gs hs.gss) fun D ys σ H ⟨F, α, ρ, μ, zs, m, s, r, o⟩ =>
  ⟨F, α, ρ, μ, zs, m, s, r, YOk.bind o fun zs1 ys1 ρ1 σ1 F1 α1 μ1 H1 g1 m1 s1 r1 o1 => ⟨F1, α1, ρ1, μ1, zs1, m1, s1, r1, o1⟩⟩⟩
theorem dy_if {a b : List Stmt} (hc : DT X W c t) (ha : DYs X W a g) (hb : DYs X W b g') : DY X W (.If c a b pos) (yIf t g g') := by
  refine ⟨CS.of (cs_if hc.pt ha.gss hb.gss) fun D ys σ H ⟨F, α, ρ, μ, zs, m, s, r, o⟩ => tX_mk m s (YOk.ebind s o fun v u F1 α1 μ1 H1 g1 m1 r1 o1 => ?_)⟩
  cases (show u = v from r1)
  cases v with
  | true => exact iteT ⟨F1, α1, ρ, μ1, zs, m1, s.grow g1, r.le g1.f, o1⟩
  | false => exact iteF ⟨F1, α1, ρ, μ1, zs, m1, s.grow g1, r.le g1.f, o1⟩
theorem dy_yield (he : DE X W e x) (hco : X.env.scope.isCoroutine = false := by rfl) (hi : interactive X.env = false := by rfl) : DY X W (.Expr (.Yield (some e) yp) pos) (yYield x) := by
  refine ⟨CS.of (cs_yield he.pe hco hi) fun D ys σ H ⟨F, α, ρ, μ, zs, m, s, r, o⟩ => ?_⟩
  have o : YOk X.K F α (if zs.length < LIM then (x ρ μ).ybind ρ fun v μ => yOut zs ρ v μ else .stuck) D.nx W := o
  by_cases hl : zs.length < LIM
  · rw [if_pos hl] at o
    refine ⟨by rw [← r.length]; exact hl, tX_mk m s (YOk.ebind s o fun v u F1 α1 μ1 H1 g1 m1 r1 o1 => ?_)⟩
    cases v with
    | d d => exact YOk.here o1 m1 (s.grow g1) ((r.le g1.f).append (Reps.cons r1 Reps.nil))
    | c n => exact o1.elim
  · rw [if_neg hl] at o
    exact o.elim
theorem dy_for {tg iter : Expr} {body : List Stmt} {it : IX} {tgt : GX} {b : YX} (hp : PassesOwn (model X.prog X.w) X.A X.env X.xe) (hc : X.calm = true) (hi : DI X W tg iter it) (hg : DG X W tg tgt) (hb : DYs X W body b)
    (hs : ∀ x, foldedSetIterable iter X.env x = pure x := by intro _; rfl) : DY X W (.For tg iter body [] pos) (yFor it tgt b) := by
  refine ⟨CS.of (cs_for hp hc hi.pi hg.pg hb.gss hs) fun D ys σ H ⟨F, α, ρ, μ, zs, m, s, r, o⟩ => ?_⟩
  have o : YOk X.K F α ((it ρ μ).ybind ρ fun ds μ => yForL tgt b ds zs ρ μ) D.nx W := o
  refine ⟨F, α, ρ, μ, m, s, ?_⟩
  cases q : it ρ μ with
  | stuck => rw [q] at o; exact o
  | raise e μ1 => rw [q] at o; exact fun cls dx F1 α1 H1 g1 m1 r => o cls dx σ F1 α1 H1 g1 m1 (s.grow g1) r
  | ok ds μ1 =>
    rw [q] at o
    intro F1 α1 H1 J g1 m1 gv
    have o : YOk X.K F α (yForL tgt b ds zs ρ μ1) D.nx W := o
    refine ⟨fun i mm ys σ H => mm = ds.length - i ∧ i ≤ ds.length ∧ ∃ F2 α2 ρ2 μ2 zs2, Le F1 F2 ∧ Mem X.K F2 H α2 μ2 ∧ Slots X.K F2 α2 ρ2 σ ∧ Reps X.K F2 zs2 ys ∧ YOk X.K F2 α2 (yForL tgt b (ds.drop i) zs2 ρ2 μ2) D.nx W,
      ⟨ds.length, by simp, Nat.zero_le _, F1, α1, ρ, μ1, zs, Le.refl _, m1, s.grow g1, r.le g1.f, by rw [List.drop_zero]; exact YOk.grow g1 o⟩, ?_⟩
    rintro i mm ys σ H ⟨rfl, hi, F2, α2, ρ2, μ2, zs2, l2, m2, s2, r2, o2⟩
    by_cases hlt : i < ds.length
    · refine .inr ⟨gv.go i H (l2.trans m2.fz) hlt, fun ys' σ' H' => ∃ F3 α3 ρ3 μ3 zs3, Le F1 F3 ∧ Mem X.K F3 H' α3 μ3 ∧ Slots X.K F3 α3 ρ3 σ' ∧ Reps X.K F3 zs3 ys' ∧ YOk X.K F3 α3 (yForL tgt b (ds.drop (i + 1)) zs3 ρ3 μ3) D.nx W, fun ys' σ' H' h => ⟨ds.length - (i + 1), by omega, rfl, hlt, h⟩, fun x H' y => ?_⟩
      obtain ⟨F3, d, hd, g3, m3, r3⟩ := gv.yld i H H' x F2 α2 μ2 l2 m2 hlt y
      have ed : ds.drop i = d :: ds.drop (i + 1) := by
        rw [List.drop_eq_getElem_cons hlt]
        rw [List.getElem?_eq_getElem hlt] at hd
        rw [Option.some.inj hd]
      rw [ed] at o2
      have o3 : YOk X.K F3 α2 (((tgt (.d d) ρ2 μ2).ybind fun ρ μ => b zs2 ρ μ).bind (yForL tgt b (ds.drop (i + 1)))) D.nx W := YOk.grow g3 o2
      have o4 : YOk X.K F3 α2 ((tgt (.d d) ρ2 μ2).ybind fun ρ μ => (b zs2 ρ μ).bind (yForL tgt b (ds.drop (i + 1)))) D.nx W := by
        cases qq : tgt (.d d) ρ2 μ2 <;> rw [qq] at o3 <;> exact o3
      refine ⟨F3, α2, ρ2, μ2, .d d, D.rt [], m3, s2.grow g3, r3, YOk.pbind o4 fun ρ5 σ5 F5 α5 μ5 H5 g5 m5 s5 o5 => ?_⟩
      refine ⟨F5, α5, ρ5, μ5, zs2, m5, s5, r2.le (g3.f.trans g5.f), YOk.bind o5 fun zs6 ys6 ρ6 σ6 F6 α6 μ6 H6 g6 m6 s6 r6 o6 => ?_⟩
      exact ⟨F6, α6, ρ6, μ6, zs6, l2.trans (g3.f.trans (g5.f.trans g6.f)), m6, s6, r6, o6⟩
    · have e : i = ds.length := by omega
      refine .inl ⟨gv.stop i H (l2.trans m2.fz) e, ?_⟩
      rw [e, List.drop_length] at o2
      exact YOk.here o2 m2 s2 r2
end
end DL
set_option Elab.async false
set_option linter.all false
set_option maxRecDepth 100000
set_option maxHeartbeats 4000000
namespace DL
open PySem PySem.Spec PyProof.Rows L2 GenE
def spY (K : Fr) (l N : Nat) (b : YX) : SpG := fun vs H Q E => vs.length = l ∧ ∃ F α μ ds, Mem K F H α μ ∧ RepVs K F α ds vs ∧ YOk K F α (b [] (rho0 N ds) μ) (fun ys _ H' => Q ys H') (fun cls dx _ H' => E cls dx H')
abbrev GBody (P : Program) (w : World) (K : Fr) (mg : Str → Option Value) (base : Heap) (k : Nat) (N : List Str) (qual : Str) (scope : Scope) (f : Addr) (body : List Stmt) (b : YX) : Prop :=
  ∀ (cd : Value) (A : Around) (outer : List Env) (s : Shared) (H : Hp) (E : XK) (pn : List (Addr × Obj)), RoomG k (gcxOf P w K mg base N qual scope f cd A outer s H E pn).A → DYs (gcxOf P w K mg base N qual scope f cd A outer s H E pn) (fun cls dx _ H' => E cls dx H') body b
theorem cfn_y {P : Program} {w : World} {K : Fr} {mg : Str → Option Value} {base : Heap} {k : Nat} {ps N : List Str} {f : Addr} {fd : FuncData} {name qual : Str} {params : Arguments} {body : List Stmt} {scope : Scope} {dvs : List V} {kws : List (Str × V)} {b : YX}
    (F : FunD K name qual params body scope dvs kws f fd) (S : GScope N ps scope) (hbody : GBody P w K mg base k N qual scope f body b) :
    CFn P w K mg base (k + 1) f fd ps (spY K ps.length N.length b) := by
  obtain ⟨oc, od, dV, kV, doc, pm, an, cdv, ct, osl, rfl, lk, hcd, _, _⟩ := F.ex
  refine cfn_of lk hcd S (fun vs H Q E h => h.1) fun A outer s H vs Q E a go hr h => ?_
  obtain ⟨hl, F0, α, μ, ds, m, r, o⟩ := h
  exact ⟨_, (hbody cdv A outer s H E [(a, go)] hr).gss, F0, α, _, μ, [], m, slots0 r, rfl, o⟩
/-- what is out, the generator's own cells gone -/
def yFin (n : Nat) : YOut → Out DV
  | .nx zs _ μ => if zs.length ≤ LIM then okD (.lst zs) (cutM n μ) else .stuck
  | _ => .stuck
theorem yfin_ok {K : Fr} {F H : Hp} {α : List Addr} {μ : List Cel} {o : YOut} {Q : VK} {W : XK} (m : Mem K F H α μ) (h : OutOk (RV K) K F α (yFin μ.length o) Q W) :
    YOk K F α o (fun ys _ H' => ∀ p, H' p = none → Q (.ref p) (upd H' p (.lst ys))) (fun _ _ _ _ => False) := by
  cases o with
  | nx zs ρ μ' =>
    intro ys σ' F' α' H' g m' s r
    obtain ⟨α2, g2, m2⟩ := m'.cutM g m.len.symm
    have h : OutOk (RV K) K F α (if zs.length ≤ LIM then okD (.lst zs) (cutM μ.length μ') else .stuck) Q W := h
    by_cases hz : zs.length ≤ LIM
    · rw [if_pos hz] at h
      exact out_lst m2 r hz (OutOk.grow g2 h)
    · rw [if_neg hz] at h
      exact h.elim
  | raise e ρ μ' => exact h.elim
  | stuck => exact h.elim
section
variable {X : Cx} {k : Nat} {f C : Addr} {fd : FuncData} {ps : List Str} {sp : SpG} {dvs : List V} {ds : List Value} {x m : Str} {p pos pos' apos : Pos} {o : Expr} {ta : TE}
theorem pgenc_meth0 {E : XK} {pl : Sem Bool} (he : PE X o ta) (c : Cls X.K C) (hm : Meth X.K C m f) (F : CFn X.prog X.w X.K X.mg X.base k f fd ps sp) (hr : RoomG k X.A) (hb : Binds X.K fd ps ds) (hd : Vals dvs ds)
    (ht : eval (.Call (.Attribute o m apos) [] [] pos') X.env = (do
      let ov ← eval o X.env
      standAt apos.atName
      let (f, first) ← holding [ov] (getMethod ov m pl)
      callWith pos' f first (backTo pos' (starEach [] X.env)) (backToKw pos' (keywordEach [] X.env))) := by rfl) :
    PGenC X k (.Call (.Attribute o m apos) [] [] pos') (tMethG C m sp dvs E ta tNil) E := by
  refine ⟨fun pins s σ H cont I h => ?_⟩
  refine PySem.W.methodCall_KW (pl := pl) (thn (he.run pins s σ H _ I h) fun u s1 ⟨x, H1, I1, rx, a, dx, fs, ex, ea, l, q⟩ => ?_) ht
  subst ex
  obtain rfl : u = Value.ref a := rx
  refine getmeth_ok I1 ea c hm l ?_
  exact PySem.W.callWith_K0 (first := [.ref a]) I1.kIn hm.kp (run_cfn (us := [.ref a]) (vs := [.ref a]) F hr hb hd I1 (.cons rfl .nil) q)
end
/-- [x for x in o.m()], m a generator method -/
def eGenM (c N : Nat) (b : YX) (a : EX) : EX := fun ρ μ => (a ρ μ).bind fun x μ => if insC x μ = some c then yFin μ.length (b [] (rho0 N [x]) μ) else .stuck
section
variable {X : Cx} {W : WX} {k N : Nat} {c : Nat} {f : Addr} {fd : FuncData} {ps : List Str} {b : YX} {e a0 : Expr} {es : List Expr} {x : EX} {xs : EXs} {m nm y : Str} {p p1 p2 pos pos' apos : Pos} {scope : Scope}
theorem pre_genM {σ : St} {H : Hp} {Q : VK} (hn : NoFld m) (h : tD X.K W (eGenM c N b x) σ H Q) : tListG (tMethG (He.ga X.K (clsNm c)) m (spY X.K 1 N b) [] (fun _ _ _ => False) (tD X.K W x) tNil) σ H Q := by
  refine tX_bind (f := fun ρ x μ => if insC x μ = some c then yFin μ.length (b [] (rho0 N [x]) μ) else .stuck) h fun F0 α ρ μ v u H1 mm sl rv o => ?_
  by_cases e1 : insC v μ = some c
  · rw [if_pos e1] at o
    obtain ⟨a, dx, fv, rfl, q1, q3, _⟩ := ins_of mm rv e1
    exact ⟨a, dx, fv, rfl, q1, q3 m hn, rfl, F0, α, μ, [v], mm, ⟨_, _, rfl, rv, rfl⟩, yfin_ok mm o⟩
  · rw [if_neg e1] at o
    exact o.elim
theorem de_lcGm {pl : Sem Bool} (he : DE X W e x) (hc : Cls X.K (He.ga X.K (clsNm c))) (hM : Meth X.K (He.ga X.K (clsNm c)) m f) (hn : NoFld m) (hp : ps.length = 1) (F : CFn X.prog X.w X.K X.mg X.base k f fd ps (spY X.K ps.length N b)) (hb : Binds X.K fd ps [])
    (hr : RoomG (k + 1) X.A) (hkind : scope.kind = .function) (hsn : scope.names = [((".0" : Str), .local), (y, .local)]) (hdb : (y == ("__debug__" : Str)) = false)
    (ht : eval (.Call (.Attribute e m apos) [] [] pos') X.env = (do
      let ov ← eval e X.env
      standAt apos.atName
      let (f, first) ← holding [ov] (getMethod ov m pl)
      callWith pos' f first (backTo pos' (starEach [] X.env)) (backToKw pos' (keywordEach [] X.env))) := by rfl)
    (hs : ∀ x, foldedSetIterable (.Call (.Attribute e m apos) [] [] pos') X.env x = pure x := by intro _; rfl) :
    DE X W (.ListComp (.Name y p1) [⟨.Name y p2, .Call (.Attribute e m apos) [] [] pos', [], 0⟩] scope pos) (eGenM c N b x) := by
  rw [hp] at F
  exact ⟨PE.of (pe_lcG (pgenc_meth0 (dvs := []) (ds := []) (pl := pl) he.pe hc hM F (hr.mono (by omega)) hb .nil ht) hr hkind hsn hdb hs) fun σ H Q h => pre_genM hn h⟩
end
end DL
set_option Elab.async false
set_option linter.all false
set_option maxRecDepth 100000
set_option maxHeartbeats 4000000
namespace DL
open PySem PySem.Spec PyProof.Rows L2
section
variable {prog : Program} {w : World} {A : Around} {E : Value → Shared → Prop} {s : Shared} {K : Fr} {x C f : Addr} {ox : Obj} {od : Option Obj}
theorem truthy_lenK {Q : Bool → Shared → Prop} (X : K.In s.heap) (I : PySem.W.InstAt s.heap x ox C od) (hb : PySem.W.findIn K (.ref C) "__bool__" = some none) (hs : PySem.W.findIn K (.ref C) "__len__" = some (some (.ref f))) (hf : PySem.W.isFn K (.ref f) = true)
    (h : wpAny (model prog w) A.in1 (call (.ref f) [.ref x]) (fun r s' => ∃ n u, r = .int n u ∧ 0 ≤ n ∧ n < 2 ^ 63 ∧ Q (n != 0) { s' with toks := s'.toks + 1 }) E s) : wpAny (model prog w) A (truthy (.ref x)) Q E s := by
  have key : wpAny (model prog w) A (runValue (.builtin "len" ⟨[.ref x], []⟩)) (fun r s' => ∃ n u, r = .int n u ∧ Q (n != 0) s') E s := by
    refine wpAny_runValue (codeAny_builtin entry_len ?_)
    rw [Around.under_plainId plain_len _]
    unfold Builtin.«len»
    refine wpAny_bind (m := oneArg "len" _) (wpAny_pure ?_)
    refine wpAny_bind (PySem.W.special_fn X I hs (beq_iff_eq.mp hf) (wpAny_mono h (fun r s' hr => ?_) fun _ _ y => y))
    obtain ⟨n, u, rfl, h0, h1, hq⟩ := hr
    refine wpAny_bind (wpAny_holding (wpAny_pure ?_))
    refine wpAny_bind (wpAny_letGo ?_)
    show wpAny _ _ (if n < 0 then _ else _) _ _ _
    rw [if_neg (by omega)]
    show wpAny _ _ (if n ≥ 2 ^ 63 then _ else _) _ _ _
    rw [if_neg (by omega)]
    exact wpAny_bind (wpAny_mkInt (wpAny_pure ⟨_, _, rfl, hq⟩))
  unfold truthy
  refine wpAny_bind (m := callSpecial? (.ref x) (Str.ofString "__bool__")) (wpAny_bind (wpAny_bind (I.type.here ((PySem.W.looks_findIn X hb).here (wpAny_pure ?_)))))
  refine wpAny_bind (wpAny_bind (I.type.here ((PySem.W.looks_findIn X hs).here ?_)))
  show wpAny _ _ (if (some (Value.ref f)).isNone = true then _ else _) _ _ _
  rw [if_neg (by simp)]
  exact wpAny_bind (wpAny_mono key (fun r s' h' => by
    obtain ⟨n, u, rfl, hq⟩ := h'
    exact wpAny_pure hq) fun _ _ e => e)
end
def tTruL (c : Nat) (g : Gn) (a : EX) : TX := fun ρ μ => (a ρ μ).bind fun x μ => if insC x μ = some c then (noR (g [x] μ)).bind fun v μ => (match v with
  | .d (.int n) => if 0 ≤ n ∧ n < 2 ^ 63 then .ok (n != 0) μ else .stuck
  | _ => .stuck) else .stuck
section
variable {Q : Bool → List Cel → Prop} {X : Exn → List Cel → Prop} {ρ : Rho} {μ : List Cel} {c : Nat} {g : Gn} {a : EX}
@[simp] theorem we_tTruL : WE (tTruL c g a ρ μ) Q X = WE (a ρ μ) (fun x μ => insC x μ = some c ∧ WE (g [x] μ) (fun v μ => ∃ n, v = .d (.int n) ∧ (0 ≤ n ∧ n < 2 ^ 63) ∧ Q (n != 0) μ) X0) X := by
  unfold tTruL
  rw [we_bind]
  congr 1
  funext x μ
  by_cases h : insC x μ = some c
  · simp only [h, if_true, true_and, we_bind, we_noR]
    congr 1
    funext v μ
    cases v with
    | c k => simp
    | d x =>
      cases x with
      | int i =>
        show WE (if 0 ≤ i ∧ i < 2 ^ 63 then Out.ok (i != 0) μ else Out.stuck) Q X = _
        by_cases hn : 0 ≤ i ∧ i < 2 ^ 63
        · rw [if_pos hn]
          exact propext ⟨fun q => ⟨i, rfl, hn, q⟩, fun ⟨n, e, _, q⟩ => by cases e; exact q⟩
        · rw [if_neg hn]
          exact propext ⟨fun q => q.elim, fun ⟨n, e, q1, _⟩ => by cases e; exact absurd q1 hn⟩
      | _ => simp
  · simp [h]
end
end DL
set_option Elab.async false
set_option linter.all false
set_option maxRecDepth 100000
set_option maxHeartbeats 4000000
namespace DL
open PySem PySem.Spec PyProof.Rows L2
section
variable {prog : Program} {w : World} {A : Around} {E : Value → Shared → Prop} {s : Shared}
theorem bool_newIn (x : Value) : MeetsIn prog w (Builtin.«bool.__new__» ⟨[.type "bool", x], []⟩) (fun A R s => wpAny (model prog w) A.in1 (truthy x) (fun b s' => R (.ok (.ret (.bool b))) s') (fun e s' => R (.error e) s') s) :=
  .of_wp fun A R s h => by
    have f1 := F.conv_sub_bool
    repeat (any_goals (first | assumption | with_reducible exact h | wp_step))
    refine wpAny_mono (show wpAny _ _ (truthy x) _ _ _ from h) (fun b s' q => ?_) fun _ _ z => z
    repeat (any_goals (first | assumption | wp_step))
    exact ⟨_, rfl, q⟩
theorem call_boolIn {x : Value} {Q : Value → Shared → Prop} (h : wpAny (model prog w) A.in1.in1 (truthy x) (fun b s' => Q (.bool b) s') E s) : wpAny (model prog w) A (call (.type "bool") [x]) Q E s :=
  callType_newIn F.called_bool F.newNe_bool (F.typeCall_bool_1 x) (F.newCall_bool_1 x) (fun obj => F.args_object_init_2 obj x) F.entry_bool_new (bool_newIn x) (wpAny_mono h (fun b s' q => ⟨rfl, q⟩) fun _ _ z => z)
end
def boolLG (c : Nat) (g : Gn) : G1 := fun x μ => if insC x μ = some c then (noR (g [x] μ)).bind fun v μ => (match v with
  | .d (.int n) => if 0 ≤ n ∧ n < 2 ^ 63 then okD (.bl (n != 0)) μ else .stuck
  | _ => .stuck) else .stuck
section
variable {X : Cx} {W : WX} {pos p : Pos} {e : Expr} {x : EX} {c k : Nat} {f : Addr} {g : Gn}
def rBoolL (K : Fr) (c : Nat) (g : Gn) : List V → Hp → VK → Prop := fun xs H Q => ∃ F α μ d x, xs = [x] ∧ Mem K F H α μ ∧ RepV K F α d x ∧ insC d μ = some c ∧ OutOk (RV K) K F α (g [d] μ) (fun u H' => ∃ n, u = .int n ∧ 0 ≤ n ∧ n < 2 ^ 63 ∧ Q (.bl (n != 0)) H') E0
theorem call_boolL (hb : PySem.W.findIn X.K (.ref (He.ga X.K (clsNm c))) "__bool__" = some none) (hs : PySem.W.findIn X.K (.ref (He.ga X.K (clsNm c))) "__len__" = some (some (.ref f))) (hf : PySem.W.isFn X.K (.ref f) = true) (C : CD X.prog X.w X.K X.mg X.base k (.ref f) 1 [] g) (hr : RoomG (k + 3) X.A) : CallR X (.type "bool") (rBoolL X.K c g) := by
  intro pins s σ H xs us Q I r h
  obtain ⟨F, α, μ, d, x, rfl, m, r1, hc, o⟩ := h
  obtain ⟨a, dx, fv, rfl, ea, _, _⟩ := ins_of m r1 hc
  obtain ⟨u, rfl, ru⟩ := r.one
  obtain rfl : u = Value.ref a := ru
  obtain ⟨od, J⟩ := ins_at I ea
  refine call_boolIn (truthy_lenK I.kIn J hb hs hf ?_)
  refine wpAny_call (codeAny_mono (C X.A.in1.in1.in1 X.stack s H [.ref a] [] [.ref a] [] _ E0 F α μ [d] hr.in1.in1.in1 I.env0.in1.in1.in1 (.cons rfl .nil) .nil rfl rfl m ⟨_, _, rfl, r1, rfl⟩ o) fun r s' hq => ?_)
  obtain ⟨w, rfl, z, H', I', rz, n, ez, h0, h1, q⟩ := own_end I hq
  subst ez
  obtain ⟨t, rfl⟩ := (show ∃ t, w = Value.int n t from rz)
  exact ⟨n, t, rfl, h0, h1, ⟨.bl (n != 0), H', I'.tok _, rfl, q⟩⟩
theorem de_boolL (hg : Gl X "bool") (hm : X.mg "bool" = none) (hb : PySem.W.findIn X.K (.ref (He.ga X.K (clsNm c))) "__bool__" = some none) (hs : PySem.W.findIn X.K (.ref (He.ga X.K (clsNm c))) "__len__" = some (some (.ref f))) (hf : PySem.W.isFn X.K (.ref f) = true) (C : CD X.prog X.w X.K X.mg X.base k (.ref f) 1 [] g) (hr : RoomG (k + 3) X.A) (he : DE X W e x)
    (hst : starEach [e] X.env = (false, eval e X.env) :: starEach [] X.env := by rfl) (hpl : (backTo pos (starEach [] X.env)).any (·.1) = false := by rfl) : DE X W (.Call (.Name "bool" p) [e] [] pos) (e1 (boolLG c g) x) := by
  refine ⟨PE.of (pe_callTy (call_boolL hb hs hf C hr) hg hm boot_bool (pa_cons he.pe pa_nil hst) (by decide) (by decide) hst hpl) fun σ H Q h => ?_⟩
  refine tX_bind (f := fun _ x μ => boolLG c g x μ) h fun F α ρ μ v u H1 m s rv o => ?_
  unfold boolLG at o
  by_cases hc : insC v μ = some c
  · rw [if_pos hc] at o
    refine ⟨F, α, μ, v, u, rfl, m, rv, hc, ?_⟩
    cases q : g [v] μ with
    | stuck => rw [q] at o; exact o
    | raise ex μ1 => rw [q] at o; exact o.elim
    | ok w μ1 =>
      rw [q] at o
      intro u F1 α1 H1 g1 m1 rv1
      simp only [noR, bind_ok] at o
      split at o
      · cases rv1
        split at o
        · rename_i n hn
          exact ⟨n, rfl, hn.1, hn.2, o _ F1 α1 H1 g1 m1 rfl⟩
        · exact o.elim
      · exact o.elim
  · rw [if_neg hc] at o; exact o.elim
@[simp] theorem we_boolL {Q : DV → List Cel → Prop} {X : Exn → List Cel → Prop} {c : Nat} {g : Gn} {x : DV} {μ : List Cel} : WE (boolLG c g x μ) Q X = (insC x μ = some c ∧ WE (g [x] μ) (fun v μ => ∃ n, v = .d (.int n) ∧ (0 ≤ n ∧ n < 2 ^ 63) ∧ Q (.d (.bl (n != 0))) μ) X0) := by
  unfold boolLG
  by_cases h : insC x μ = some c
  · simp only [h, if_true, true_and, we_bind, we_noR]
    congr 1
    funext v μ
    cases v with
    | c k => simp
    | d x =>
      cases x with
      | int i =>
        show WE (if 0 ≤ i ∧ i < 2 ^ 63 then okD (.bl (i != 0)) μ else Out.stuck) Q X = _
        by_cases hn : 0 ≤ i ∧ i < 2 ^ 63
        · rw [if_pos hn]
          exact propext ⟨fun q => ⟨i, rfl, hn, q⟩, fun ⟨n, e, _, q⟩ => by cases e; exact q⟩
        · rw [if_neg hn]
          exact propext ⟨fun q => q.elim, fun ⟨n, e, q1, _⟩ => by cases e; exact absurd q1 hn⟩
      | _ => simp
  · simp [h]
end
end DL
set_option Elab.async false
set_option linter.all false
set_option maxRecDepth 100000
set_option maxHeartbeats 0
namespace DL.K05
open PySem PySem.Spec PyProof.Rows L2 DL
def top (i : Nat) : Stmt := PySem.Challenge.pw_streamscreens_k05_boxes_of_sizes.main.body.getD i (.Pass ⟨0, 0, 0, 0⟩)
def kc_EVERY_GRID : Dat := .tup [.tup [.int 1], .tup [.int 1], .tup [.tup [.bl true]]]
abbrev s_is_integer : Stmt := top 5
def d_is_integer : DefR := ⟨fun K => He.ga K "is_integer", "is_integer", "is_integer", defArgs s_is_integer, defBody s_is_integer, defScope s_is_integer, [], []⟩
abbrev N_is_integer : List Str := ["value", "least", "most"]
theorem sc_is_integer : FnScope N_is_integer ["value", "least", "most"] (defScope s_is_integer) := ⟨rfl, rfl, rfl, by decide +kernel, rfl, by decide +kernel, by decide +kernel⟩
def b_is_integer : SX := (sSeq (sRet (eAnd (e1 (isiG "int") (eV 0)) (eAnd (eNot (e1 (isiG "bool") (eV 0))) (eChain leD leD (eV 1) (eV 0) (eV 2)))))
    sSkip)
def g_is_integer : Gn := fnG true 3 b_is_integer
abbrev s_is_stretch : Stmt := top 8
def d_is_stretch : DefR := ⟨fun K => He.ga K "is_stretch", "is_stretch", "is_stretch", defArgs s_is_stretch, defBody s_is_stretch, defScope s_is_stretch, [], []⟩
abbrev N_is_stretch : List Str := ["low", "high"]
theorem sc_is_stretch : FnScope N_is_stretch ["low", "high"] (defScope s_is_stretch) := ⟨rfl, rfl, rfl, by decide +kernel, rfl, by decide +kernel, by decide +kernel⟩
def b_is_stretch : SX := (sSeq (sRet (eAnd (eCall 3 g_is_integer (as1 (eV 0) (as1 (eK (.int 1)) (as1 (eK (.int 1000000000)) as0)))) (eOr (e2 isN (eV 1) (eK .non)) (eCall 3 g_is_integer (as1 (eV 1) (as1 (eV 0) (as1 (eK (.int 1000000000)) as0)))))))
    sSkip)
def g_is_stretch : Gn := fnG true 2 b_is_stretch
abbrev s_is_box : Stmt := top 9
def d_is_box : DefR := ⟨fun K => He.ga K "is_box", "is_box", "is_box", defArgs s_is_box, defBody s_is_box, defScope s_is_box, [], []⟩
abbrev N_is_box : List Str := ["value"]
theorem sc_is_box : FnScope N_is_box ["value"] (defScope s_is_box) := ⟨rfl, rfl, rfl, by decide +kernel, rfl, by decide +kernel, by decide +kernel⟩
def b_is_box : SX := (sSeq (sIf (tOrX (tNotX (tTru (e1 (isiG "tuple") (eV 0)))) (tBool (e2 neB (eN lenG (as1 (eV 0) as0)) (eK (.int 4))))) (sSeq (sRet (eK (.bl false)))
    sSkip) sSkip)
    (sSeq (sRet (eAnd (eCall 2 g_is_stretch (as1 (e2 ixD (eV 0) (eK (.int 0))) (as1 (e2 ixD (eV 0) (eK (.int 1))) as0))) (eCall 2 g_is_stretch (as1 (e2 ixD (eV 0) (eK (.int 2))) (as1 (e2 ixD (eV 0) (eK (.int 3))) as0)))))
    sSkip))
def g_is_box : Gn := fnG true 1 b_is_box
abbrev s_joined_grid : Stmt := top 14
def d_joined_grid : DefR := ⟨fun K => He.ga K "joined_grid", "joined_grid", "joined_grid", defArgs s_joined_grid, defBody s_joined_grid, defScope s_joined_grid, [], []⟩
abbrev N_joined_grid : List Str := ["grid", "kept", "rows", "columns", "left", "cells", "heights", "widths", "table", "index", "row"]
theorem sc_joined_grid : FnScope N_joined_grid ["grid"] (defScope s_joined_grid) := ⟨rfl, rfl, rfl, by decide +kernel, rfl, by decide +kernel, by decide +kernel⟩
def b_joined_grid : SX := (sSeq (sAsg (eV 0) (gT 3 (gsC (gN 6) (gsC (gN 7) (gsC (gN 8) gsN)))))
    (sSeq (sAsg (eLc [9] (iRange1 (eN lenG (as1 (eV 6) as0))) (gN 9) (tOrX (tBool (e2 eqB (eV 9) (eK (.int 0)))) (tBool (e2 neB (e2 ixD (eV 8) (eV 9)) (e2 ixD (eV 8) (e2 subD (eV 9) (eK (.int 1))))))) (eV 9)) (gN 1))
    (sSeq (sAsg (eLc [9] (iSeq (eV 1)) (gN 9) tTrue (e2 ixD (eV 8) (eV 9))) (gN 2))
    (sSeq (sAsg (eLc [9] (iRange1 (eN lenG (as1 (eV 7) as0))) (gN 9) tTrue (eLc [10] (iSeq (eV 2)) (gN 10) tTrue (e2 ixD (eV 10) (eV 9)))) (gN 3))
    (sSeq (sAsg (eLc [9] (iRange1 (eN lenG (as1 (eV 7) as0))) (gN 9) (tOrX (tBool (e2 eqB (eV 9) (eK (.int 0)))) (tBool (e2 neB (e2 ixD (eV 3) (eV 9)) (e2 ixD (eV 3) (e2 subD (eV 9) (eK (.int 1))))))) (eV 9)) (gN 4))
    (sSeq (sAsg (eN tupleG (as1 (eLc [10] (iSeq (eV 2)) (gN 10) tTrue (eN tupleG (as1 (eLc [9] (iSeq (eV 4)) (gN 9) tTrue (e2 ixD (eV 10) (eV 9))) as0))) as0)) (gN 5))
    (sSeq (sRet (eN eTupD (as1 (eN tupleG (as1 (eLc [9] (iSeq (eV 1)) (gN 9) tTrue (e2 ixD (eV 6) (eV 9))) as0)) (as1 (eN tupleG (as1 (eLc [9] (iSeq (eV 4)) (gN 9) tTrue (e2 ixD (eV 7) (eV 9))) as0)) (as1 (eV 5) as0)))))
    sSkip)))))))
def g_joined_grid : Gn := fnG true 11 b_joined_grid
abbrev s_band_starts : Stmt := top 10
def d_band_starts : DefR := ⟨fun K => He.ga K "band_starts", "band_starts", "band_starts", defArgs s_band_starts, defBody s_band_starts, defScope s_band_starts, [], []⟩
abbrev N_band_starts : List Str := ["stretches", "begun", "behind", "low", "high"]
theorem sc_band_starts : FnScope N_band_starts ["stretches"] (defScope s_band_starts) := ⟨rfl, rfl, rfl, by decide +kernel, rfl, by decide +kernel, by decide +kernel⟩
def b_band_starts : SX := (sSeq (sAsg (eLc [3, 4] (iSeq (eV 0)) (gT 2 (gsC (gN 3) (gsC (gN 4) gsN))) tTrue (eV 3)) (gN 1))
    (sSeq (sAsg (eLc [3, 4] (iSeq (eV 0)) (gT 2 (gsC (gN 3) (gsC (gN 4) gsN))) (tBool (e2 notN (eV 4) (eK .non))) (e2 addD (eV 4) (eK (.int 1)))) (gN 2))
    (sSeq (sRet (eN tupleG (as1 (e1 sortSetD (e2 addD (e2 addD (eN eLstD (as1 (eK (.int 1)) as0)) (eV 1)) (eV 2))) as0)))
    sSkip)))
def g_band_starts : Gn := fnG true 5 b_band_starts
abbrev s_is_from_to : Stmt := top 12
def d_is_from_to : DefR := ⟨fun K => He.ga K "is_from_to", "is_from_to", "is_from_to", defArgs s_is_from_to, defBody s_is_from_to, defScope s_is_from_to, [], []⟩
abbrev N_is_from_to : List Str := ["low", "high", "number"]
theorem sc_is_from_to : FnScope N_is_from_to ["low", "high", "number"] (defScope s_is_from_to) := ⟨rfl, rfl, rfl, by decide +kernel, rfl, by decide +kernel, by decide +kernel⟩
def b_is_from_to : SX := (sSeq (sRet (eAnd (e2 leD (eV 0) (eV 2)) (eOr (e2 isN (eV 1) (eK .non)) (e2 leD (eV 2) (eV 1)))))
    sSkip)
def g_is_from_to : Gn := fnG true 3 b_is_from_to
abbrev s_grid_of_boxes : Stmt := top 13
def d_grid_of_boxes : DefR := ⟨fun K => He.ga K "grid_of_boxes", "grid_of_boxes", "grid_of_boxes", defArgs s_grid_of_boxes, defBody s_grid_of_boxes, defScope s_grid_of_boxes, [], []⟩
abbrev N_grid_of_boxes : List Str := ["boxes", "heights", "widths", "table", "height", "here", "box", "width", "left", "right"]
theorem sc_grid_of_boxes : FnScope N_grid_of_boxes ["boxes"] (defScope s_grid_of_boxes) := ⟨rfl, rfl, rfl, by decide +kernel, rfl, by decide +kernel, by decide +kernel⟩
def b_grid_of_boxes : SX := (sSeq (sAsg (eCall 1 g_band_starts (as1 (eLc [6] (iSeq (eV 0)) (gN 6) tTrue (eSl (eV 6) oN (oS (eK (.int 2))))) as0)) (gN 1))
    (sSeq (sAsg (eCall 1 g_band_starts (as1 (eLc [6] (iSeq (eV 0)) (gN 6) tTrue (eSl (eV 6) (oS (eK (.int 2))) oN)) as0)) (gN 2))
    (sSeq (sAsg (eN eLstC as0) (gN 3))
    (sSeq (sFor (iSeq (eV 1)) (gN 4) (sSeq (sAsg (eLc [6] (iSeq (eV 0)) (gN 6) (tTru (eCall 3 g_is_from_to (as1 (e2 ixD (eV 6) (eK (.int 0))) (as1 (e2 ixD (eV 6) (eK (.int 1))) (as1 (eV 4) as0))))) (eSl (eV 6) (oS (eK (.int 2))) oN)) (gN 5))
    (sSeq (sDo (eLm1 appendD (eV 3) (eN tupleG (as1 (eLc [7] (iSeq (eV 2)) (gN 7) tTrue (eN anyG (as1 (eLc [8, 9] (iSeq (eV 5)) (gT 2 (gsC (gN 8) (gsC (gN 9) gsN))) tTrue (eCall 3 g_is_from_to (as1 (eV 8) (as1 (eV 9) (as1 (eV 7) as0))))) as0))) as0))))
    sSkip)))
    (sSeq (sRet (eN eTupD (as1 (eV 1) (as1 (eV 2) (as1 (eN tupleG (as1 (eV 3) as0)) as0)))))
    sSkip)))))
def g_grid_of_boxes : Gn := fnG true 10 b_grid_of_boxes
abbrev s_Sizes_init : Stmt := inClass (top 18) 0
def d_Sizes_init : DefR := ⟨fun K => He.ma K (He.ga K "Sizes") "__init__", "__init__", "Sizes.__init__", defArgs s_Sizes_init, defBody s_Sizes_init, defScope s_Sizes_init, [], [("grid", .non)]⟩
abbrev N_Sizes_init : List Str := ["self", "grid", "boxes", "index", "box"]
theorem sc_Sizes_init : FnScope N_Sizes_init ["self", "grid", "boxes"] (defScope s_Sizes_init) := ⟨rfl, rfl, rfl, by decide +kernel, rfl, by decide +kernel, by decide +kernel⟩
def b_Sizes_init : SX := (sSeq (sFor (iEnumX (eV 2)) (gT 2 (gsC (gN 3) (gsC (gN 4) gsN))) (sSeq (sIf (tNotX (tTru (eCall 1 g_is_box (as1 (eV 4) as0)))) (sSeq sNever
    sSkip) sSkip)
    sSkip))
    (sSeq (sFldS [23] 11 (eV 0) (eIf (tBool (e2 isN (eV 1) (eK .non))) (eCall 1 g_joined_grid (as1 (eCall 1 g_grid_of_boxes (as1 (eV 2) as0)) as0)) (eV 1)))
    sSkip))
def aD_Sizes_init_3 : List DV → List DV := fun ds => match ds with | [x0, x1, x2] => [x0, .d (.non)] | _ => []
def rD_Sizes_init_3 : List DV → List DV := fun ds => match ds with | [x0, x1, x2] => [x1, x2] | _ => []
def aG_Sizes_init_3 {β : Type} : List β → List β → List β → List β := fun us mv ws => match us, mv, ws with | [x0, x1, x2], [y0], [] => [x0, y0] | _, _, _ => []
def rG_Sizes_init_3 {β : Type} : List β → List β → List β → List β := fun us mv ws => match us, mv, ws with | [x0, x1, x2], [y0], [] => [x1, x2] | _, _, _ => []
def g_Sizes_init_3 : Gn := starG true 5 b_Sizes_init aD_Sizes_init_3 rD_Sizes_init_3
abbrev s_Sizes_heights : Stmt := inClass (top 18) 2
def d_Sizes_heights : DefR := ⟨pgA "Sizes" "heights", "heights", "Sizes.heights", defArgs s_Sizes_heights, defBody s_Sizes_heights, defScope s_Sizes_heights, [], []⟩
abbrev N_Sizes_heights : List Str := ["self"]
theorem sc_Sizes_heights : FnScope N_Sizes_heights ["self"] (defScope s_Sizes_heights) := ⟨rfl, rfl, rfl, by decide +kernel, rfl, by decide +kernel, by decide +kernel⟩
def b_Sizes_heights : SX := (sSeq (sRet (e2 ixD (e1 (fldG [23] 11) (eV 0)) (eK (.int 0))))
    sSkip)
def g_Sizes_heights : Gn := fnG true 1 b_Sizes_heights
abbrev s_Sizes_table : Stmt := inClass (top 18) 4
def d_Sizes_table : DefR := ⟨pgA "Sizes" "table", "table", "Sizes.table", defArgs s_Sizes_table, defBody s_Sizes_table, defScope s_Sizes_table, [], []⟩
abbrev N_Sizes_table : List Str := ["self"]
theorem sc_Sizes_table : FnScope N_Sizes_table ["self"] (defScope s_Sizes_table) := ⟨rfl, rfl, rfl, by decide +kernel, rfl, by decide +kernel, by decide +kernel⟩
def b_Sizes_table : SX := (sSeq (sRet (e2 ixD (e1 (fldG [23] 11) (eV 0)) (eK (.int 2))))
    sSkip)
def g_Sizes_table : Gn := fnG true 1 b_Sizes_table
abbrev s_Sizes_widths : Stmt := inClass (top 18) 3
def d_Sizes_widths : DefR := ⟨pgA "Sizes" "widths", "widths", "Sizes.widths", defArgs s_Sizes_widths, defBody s_Sizes_widths, defScope s_Sizes_widths, [], []⟩
abbrev N_Sizes_widths : List Str := ["self"]
theorem sc_Sizes_widths : FnScope N_Sizes_widths ["self"] (defScope s_Sizes_widths) := ⟨rfl, rfl, rfl, by decide +kernel, rfl, by decide +kernel, by decide +kernel⟩
def b_Sizes_widths : SX := (sSeq (sRet (e2 ixD (e1 (fldG [23] 11) (eV 0)) (eK (.int 1))))
    sSkip)
def g_Sizes_widths : Gn := fnG true 1 b_Sizes_widths
abbrev s_Sizes_boxes : Stmt := inClass (top 18) 6
def d_Sizes_boxes : DefR := ⟨fun K => He.ma K (He.ga K "Sizes") "boxes", "boxes", "Sizes.boxes", defArgs s_Sizes_boxes, defBody s_Sizes_boxes, defScope s_Sizes_boxes, [], []⟩
abbrev N_Sizes_boxes : List Str := ["self", "tops", "ends", "begin", "low", "high", "row", "index", "truth", "height", "width"]
theorem sc_Sizes_boxes : L2.GScope N_Sizes_boxes ["self"] (defScope s_Sizes_boxes) := ⟨rfl, rfl, rfl, by decide +kernel, rfl, by decide +kernel, by decide +kernel⟩
def y_Sizes_boxes : YX := (ySeq (yPl (sAsg (e2 addD (eLc [9] (iSeq (eSl (e1 (propG 23 g_Sizes_heights) (eV 0)) (oS (eK (.int 1))) oN)) (gN 9) tTrue (e2 subD (eV 9) (eK (.int 1)))) (eN eLstD (as1 (eK .non) as0))) (gN 1)))
    (ySeq (yPl (sAsg (e2 addD (eLc [10] (iSeq (eSl (e1 (propG 23 g_Sizes_widths) (eV 0)) (oS (eK (.int 1))) oN)) (gN 10) tTrue (e2 subD (eV 10) (eK (.int 1)))) (eN eLstD (as1 (eK .non) as0))) (gN 2)))
    (ySeq (yPl (sAsg (eK (.int 1)) (gN 3)))
    (ySeq (yFor (iZip3 (e1 (propG 23 g_Sizes_heights) (eV 0)) (eV 1) (e1 (propG 23 g_Sizes_table) (eV 0))) (gT 3 (gsC (gN 4) (gsC (gN 5) (gsC (gN 6) gsN)))) (ySeq (yFor (iEnumX (eV 6)) (gT 2 (gsC (gN 7) (gsC (gN 8) gsN))) (ySeq (yPl (sIf (tAndX (tTru (eV 8)) (tOrX (tBool (e2 eqB (eV 7) (eK (.int 0)))) (tNotX (tTru (e2 ixD (eV 6) (e2 subD (eV 7) (eK (.int 1)))))))) (sSeq (sAsg (e2 ixD (e1 (propG 23 g_Sizes_widths) (eV 0)) (eV 7)) (gN 3))
    sSkip) sSkip))
    (ySeq (yIf (tAndX (tTru (eV 8)) (tOrX (tBool (e2 eqB (e2 addD (eV 7) (eK (.int 1))) (eN lenG (as1 (eV 6) as0)))) (tNotX (tTru (e2 ixD (eV 6) (e2 addD (eV 7) (eK (.int 1)))))))) (ySeq (yYield (eN eTupD (as1 (eV 4) (as1 (eV 5) (as1 (eV 3) (as1 (e2 ixD (eV 2) (eV 7)) as0))))))
    ySkip) ySkip)
    ySkip)))
    ySkip))
    ySkip))))
abbrev s__law_due_boxes : Stmt := top 28
def d__law_due_boxes : DefR := ⟨fun K => He.ga K "_law_due_boxes", "_law_due_boxes", "_law_due_boxes", defArgs s__law_due_boxes, defBody s__law_due_boxes, defScope s__law_due_boxes, [], []⟩
abbrev N__law_due_boxes : List Str := ["_law_heights", "_law_widths", "_law_table", "_law_found", "_law_k", "_law_tops", "_law_ends_here", "_law_high", "_law_begin", "_law_j"]
theorem sc__law_due_boxes : FnScope N__law_due_boxes ["_law_heights", "_law_widths", "_law_table"] (defScope s__law_due_boxes) := ⟨rfl, rfl, rfl, by decide +kernel, rfl, by decide +kernel, by decide +kernel⟩
def b__law_due_boxes : SX := (sSeq (sPar2 5 6 (as1 (e2 addD (eN listG (as1 (eSl (eV 0) (oS (eK (.int 1))) oN) as0)) (eN eLstD (as1 (eK .non) as0))) (as1 (e2 addD (eN listG (as1 (eSl (eV 1) (oS (eK (.int 1))) oN) as0)) (eN eLstD (as1 (eK .non) as0))) as0)))
    (sSeq (sAsg (eN eLstC as0) (gN 3))
    (sSeq (sFor (iRange1 (eN lenG (as1 (eV 0) as0))) (gN 4) (sSeq (sAsg (eIf (tBool (e2 isN (e2 ixD (eV 5) (eV 4)) (eK .non))) (eK .non) (e2 subD (e2 ixD (eV 5) (eV 4)) (eK (.int 1)))) (gN 7))
    (sSeq (sAsg (eK .non) (gN 8))
    (sSeq (sFor (iRange1 (eN lenG (as1 (eV 1) as0))) (gN 9) (sSeq (sIf (tAndX (tTru (e2 ixD (e2 ixD (eV 2) (eV 4)) (eV 9))) (tBool (e2 isN (eV 8) (eK .non)))) (sSeq (sAsg (e2 ixD (eV 1) (eV 9)) (gN 8))
    sSkip) sSkip)
    (sSeq (sIf (tAndX (tBool (e2 notN (eV 8) (eK .non))) (tOrX (tBool (e2 isN (e2 ixD (eV 6) (eV 9)) (eK .non))) (tNotX (tTru (e2 ixD (e2 ixD (eV 2) (eV 4)) (e2 addD (eV 9) (eK (.int 1)))))))) (sSeq (sDo (eLm1 appendD (eV 3) (eN eTupD (as1 (e2 ixD (eV 0) (eV 4)) (as1 (eV 7) (as1 (eV 8) (as1 (eIf (tBool (e2 isN (e2 ixD (eV 6) (eV 9)) (eK .non))) (eK .non) (e2 subD (e2 ixD (eV 6) (eV 9)) (eK (.int 1)))) as0)))))))
    (sSeq (sAsg (eK .non) (gN 8))
    sSkip)) sSkip)
    sSkip)))
    sSkip))))
    (sSeq (sRet (eV 3))
    sSkip))))
def g__law_due_boxes : Gn := fnG true 10 b__law_due_boxes
abbrev s_runs_in : Stmt := top 17
def d_runs_in : DefR := ⟨fun K => He.ga K "runs_in", "runs_in", "runs_in", defArgs s_runs_in, defBody s_runs_in, defScope s_runs_in, [], []⟩
abbrev N_runs_in : List Str := ["grid", "found", "high", "row", "index"]
theorem sc_runs_in : FnScope N_runs_in ["grid"] (defScope s_runs_in) := ⟨rfl, rfl, rfl, by decide +kernel, rfl, by decide +kernel, by decide +kernel⟩
def b_runs_in : SX := (sSeq (sAsg (eN eLstC as0) (gN 1))
    (sSeq (sFor (iEnumX (e2 ixD (eV 0) (eK (.int 2)))) (gT 2 (gsC (gN 2) (gsC (gN 3) gsN))) (sSeq (sDo (eLm1 extendD (eV 1) (eLc [4] (iRange1 (eN lenG (as1 (eV 3) as0))) (gN 4) (tAndX (tTru (e2 ixD (eV 3) (eV 4))) (tOrX (tBool (e2 eqB (eV 4) (eK (.int 0)))) (tNotX (tTru (e2 ixD (eV 3) (e2 subD (eV 4) (eK (.int 1)))))))) (eN eTupD (as1 (eV 2) (as1 (eV 4) as0))))))
    sSkip))
    (sSeq (sRet (eV 1))
    sSkip)))
def g_runs_in : Gn := fnG true 5 b_runs_in
abbrev s_Sizes_len : Stmt := inClass (top 18) 8
def d_Sizes_len : DefR := ⟨fun K => He.ma K (He.ga K "Sizes") "__len__", "__len__", "Sizes.__len__", defArgs s_Sizes_len, defBody s_Sizes_len, defScope s_Sizes_len, [], []⟩
abbrev N_Sizes_len : List Str := ["self"]
theorem sc_Sizes_len : FnScope N_Sizes_len ["self"] (defScope s_Sizes_len) := ⟨rfl, rfl, rfl, by decide +kernel, rfl, by decide +kernel, by decide +kernel⟩
def b_Sizes_len : SX := (sSeq (sRet (eN lenG (as1 (eCall 1 g_runs_in (as1 (e1 (fldG [23] 11) (eV 0)) as0)) as0)))
    sSkip)
def g_Sizes_len : Gn := fnG true 1 b_Sizes_len
def aD_Sizes_init_1 : List DV → List DV := fun ds => match ds with | [x0] => [x0, .d (.non)] | _ => []
def rD_Sizes_init_1 : List DV → List DV := fun ds => match ds with | [x0] => [] | _ => []
def aG_Sizes_init_1 {β : Type} : List β → List β → List β → List β := fun us mv ws => match us, mv, ws with | [x0], [y0], [] => [x0, y0] | _, _, _ => []
def rG_Sizes_init_1 {β : Type} : List β → List β → List β → List β := fun us mv ws => match us, mv, ws with | [x0], [y0], [] => [] | _, _, _ => []
def g_Sizes_init_1 : Gn := starG true 5 b_Sizes_init aD_Sizes_init_1 rD_Sizes_init_1
def aD_Sizes_init_2 : List DV → List DV := fun ds => match ds with | [x0, x1] => [x0, .d (.non)] | _ => []
def rD_Sizes_init_2 : List DV → List DV := fun ds => match ds with | [x0, x1] => [x1] | _ => []
def aG_Sizes_init_2 {β : Type} : List β → List β → List β → List β := fun us mv ws => match us, mv, ws with | [x0, x1], [y0], [] => [x0, y0] | _, _, _ => []
def rG_Sizes_init_2 {β : Type} : List β → List β → List β → List β := fun us mv ws => match us, mv, ws with | [x0, x1], [y0], [] => [x1] | _, _, _ => []
def g_Sizes_init_2 : Gn := starG true 5 b_Sizes_init aD_Sizes_init_2 rD_Sizes_init_2
def aD_Sizes_init_1_grid : List DV → List DV := fun ds => match ds with | [x0, z0] => [x0, z0] | _ => []
def rD_Sizes_init_1_grid : List DV → List DV := fun ds => match ds with | [x0, z0] => [] | _ => []
def aG_Sizes_init_1_grid {β : Type} : List β → List β → List β → List β := fun us mv ws => match us, mv, ws with | [x0], [], [z0] => [x0, z0] | _, _, _ => []
def rG_Sizes_init_1_grid {β : Type} : List β → List β → List β → List β := fun us mv ws => match us, mv, ws with | [x0], [], [z0] => [] | _, _, _ => []
def g_Sizes_init_1_grid : Gn := starG true 5 b_Sizes_init aD_Sizes_init_1_grid rD_Sizes_init_1_grid
abbrev s_band_at : Stmt := top 11
def d_band_at : DefR := ⟨fun K => He.ga K "band_at", "band_at", "band_at", defArgs s_band_at, defBody s_band_at, defScope s_band_at, [], []⟩
abbrev N_band_at : List Str := ["starts", "number", "start"]
theorem sc_band_at : FnScope N_band_at ["starts", "number"] (defScope s_band_at) := ⟨rfl, rfl, rfl, by decide +kernel, rfl, by decide +kernel, by decide +kernel⟩
def b_band_at : SX := (sSeq (sRet (e2 subD (eN lenG (as1 (eLc [2] (iSeq (eV 0)) (gN 2) (tBool (e2 leD (eV 2) (eV 1))) (eV 2)) as0)) (eK (.int 1))))
    sSkip)
def g_band_at : Gn := fnG true 3 b_band_at
abbrev s_truth_by : Stmt := top 15
def d_truth_by : DefR := ⟨fun K => He.ga K "truth_by", "truth_by", "truth_by", defArgs s_truth_by, defBody s_truth_by, defScope s_truth_by, [], []⟩
abbrev N_truth_by : List Str := ["way", "first", "second"]
theorem sc_truth_by : FnScope N_truth_by ["way", "first", "second"] (defScope s_truth_by) := ⟨rfl, rfl, rfl, by decide +kernel, rfl, by decide +kernel, by decide +kernel⟩
def b_truth_by : SX := (sSeq (sIf (tBool (e2 eqB (eV 0) (eK (.str [101, 105, 116, 104, 101, 114])))) (sSeq (sRet (eOr (eV 1) (eV 2)))
    sSkip) sSkip)
    (sSeq (sIf (tBool (e2 eqB (eV 0) (eK (.str [98, 111, 116, 104])))) (sSeq (sRet (eAnd (eV 1) (eV 2)))
    sSkip) sSkip)
    (sSeq (sRet (eAnd (eV 1) (eNot (eV 2))))
    sSkip)))
def g_truth_by : Gn := fnG true 3 b_truth_by
abbrev s_mixed_grid : Stmt := top 16
def d_mixed_grid : DefR := ⟨fun K => He.ga K "mixed_grid", "mixed_grid", "mixed_grid", defArgs s_mixed_grid, defBody s_mixed_grid, defScope s_mixed_grid, [], []⟩
abbrev N_mixed_grid : List Str := ["one", "other", "way", "heights", "widths", "columns", "table", "height", "first", "second", "width", "here", "there"]
theorem sc_mixed_grid : FnScope N_mixed_grid ["one", "other", "way"] (defScope s_mixed_grid) := ⟨rfl, rfl, rfl, by decide +kernel, rfl, by decide +kernel, by decide +kernel⟩
def b_mixed_grid : SX := (sSeq (sAsg (eN tupleG (as1 (e1 sortSetD (e2 addD (e2 ixD (eV 0) (eK (.int 0))) (e2 ixD (eV 1) (eK (.int 0))))) as0)) (gN 3))
    (sSeq (sAsg (eN tupleG (as1 (e1 sortSetD (e2 addD (e2 ixD (eV 0) (eK (.int 1))) (e2 ixD (eV 1) (eK (.int 1))))) as0)) (gN 4))
    (sSeq (sAsg (eLc [10] (iSeq (eV 4)) (gN 10) tTrue (eN eTupD (as1 (eCall 2 g_band_at (as1 (e2 ixD (eV 0) (eK (.int 1))) (as1 (eV 10) as0))) (as1 (eCall 2 g_band_at (as1 (e2 ixD (eV 1) (eK (.int 1))) (as1 (eV 10) as0))) as0)))) (gN 5))
    (sSeq (sAsg (eN eLstC as0) (gN 6))
    (sSeq (sFor (iSeq (eV 3)) (gN 7) (sSeq (sAsg (e2 ixD (e2 ixD (eV 0) (eK (.int 2))) (eCall 2 g_band_at (as1 (e2 ixD (eV 0) (eK (.int 0))) (as1 (eV 7) as0)))) (gN 8))
    (sSeq (sAsg (e2 ixD (e2 ixD (eV 1) (eK (.int 2))) (eCall 2 g_band_at (as1 (e2 ixD (eV 1) (eK (.int 0))) (as1 (eV 7) as0)))) (gN 9))
    (sSeq (sDo (eLm1 appendD (eV 6) (eN tupleG (as1 (eLc [11, 12] (iSeq (eV 5)) (gT 2 (gsC (gN 11) (gsC (gN 12) gsN))) tTrue (eCall 3 g_truth_by (as1 (eV 2) (as1 (e2 ixD (eV 8) (eV 11)) (as1 (e2 ixD (eV 9) (eV 12)) as0))))) as0))))
    sSkip))))
    (sSeq (sRet (eCall 1 g_joined_grid (as1 (eN eTupD (as1 (eV 3) (as1 (eV 4) (as1 (eN tupleG (as1 (eV 6) as0)) as0)))) as0)))
    sSkip))))))
def g_mixed_grid : Gn := fnG true 13 b_mixed_grid
abbrev s_Sizes_and : Stmt := inClass (top 18) 11
def d_Sizes_and : DefR := ⟨fun K => He.ma K (He.ga K "Sizes") "__and__", "__and__", "Sizes.__and__", defArgs s_Sizes_and, defBody s_Sizes_and, defScope s_Sizes_and, [], []⟩
abbrev N_Sizes_and : List Str := ["self", "other"]
theorem sc_Sizes_and : FnScope N_Sizes_and ["self", "other"] (defScope s_Sizes_and) := ⟨rfl, rfl, rfl, by decide +kernel, rfl, by decide +kernel, by decide +kernel⟩
def b_Sizes_and : SX := (sSeq (sRet (eCallK 0 1 (mkG true 23 g_Sizes_init_1_grid) as0 (as1 (eCall 3 g_mixed_grid (as1 (e1 (fldG [23] 11) (eV 0)) (as1 (e1 (fldG [23] 11) (eV 1)) (as1 (eK (.str [98, 111, 116, 104])) as0)))) as0)))
    sSkip)
def g_Sizes_and : Gn := fnG true 2 b_Sizes_and
abbrev s_Sizes_or : Stmt := inClass (top 18) 10
def d_Sizes_or : DefR := ⟨fun K => He.ma K (He.ga K "Sizes") "__or__", "__or__", "Sizes.__or__", defArgs s_Sizes_or, defBody s_Sizes_or, defScope s_Sizes_or, [], []⟩
abbrev N_Sizes_or : List Str := ["self", "other"]
theorem sc_Sizes_or : FnScope N_Sizes_or ["self", "other"] (defScope s_Sizes_or) := ⟨rfl, rfl, rfl, by decide +kernel, rfl, by decide +kernel, by decide +kernel⟩
def b_Sizes_or : SX := (sSeq (sRet (eCallK 0 1 (mkG true 23 g_Sizes_init_1_grid) as0 (as1 (eCall 3 g_mixed_grid (as1 (e1 (fldG [23] 11) (eV 0)) (as1 (e1 (fldG [23] 11) (eV 1)) (as1 (eK (.str [101, 105, 116, 104, 101, 114])) as0)))) as0)))
    sSkip)
def g_Sizes_or : Gn := fnG true 2 b_Sizes_or
abbrev s_Sizes_repr : Stmt := inClass (top 18) 14
def d_Sizes_repr : DefR := ⟨fun K => He.ma K (He.ga K "Sizes") "__repr__", "__repr__", "Sizes.__repr__", defArgs s_Sizes_repr, defBody s_Sizes_repr, defScope s_Sizes_repr, [], []⟩
abbrev N_Sizes_repr : List Str := ["self"]
theorem sc_Sizes_repr : FnScope N_Sizes_repr ["self"] (defScope s_Sizes_repr) := ⟨rfl, rfl, rfl, by decide +kernel, rfl, by decide +kernel, by decide +kernel⟩
def b_Sizes_repr : SX := (sSeq (sRet (jsG [(eK (.str [83, 105, 122, 101, 115, 40])), (e1 fmtG (e1 (lenOwnG 23 g_Sizes_len) (eV 0))), (eK (.str [32, 98, 111, 120, 101, 115, 41]))] []))
    sSkip)
def g_Sizes_repr : Gn := fnG true 1 b_Sizes_repr
abbrev s_Sizes_eq : Stmt := inClass (top 18) 9
def d_Sizes_eq : DefR := ⟨fun K => He.ma K (He.ga K "Sizes") "__eq__", "__eq__", "Sizes.__eq__", defArgs s_Sizes_eq, defBody s_Sizes_eq, defScope s_Sizes_eq, [], []⟩
abbrev N_Sizes_eq : List Str := ["self", "other"]
theorem sc_Sizes_eq : FnScope N_Sizes_eq ["self", "other"] (defScope s_Sizes_eq) := ⟨rfl, rfl, rfl, by decide +kernel, rfl, by decide +kernel, by decide +kernel⟩
def b_Sizes_eq : SX := (sSeq (sRet (eAnd (e1 (isiX [("NoneType", false), ("bool", false), ("int", false), ("str", false), ("tuple", false), ("list", false), ("dict", false)] [(23, true)]) (eV 1)) (e2 eqB (e1 (fldG [23] 11) (eV 0)) (e1 (fldG [23] 11) (eV 1)))))
    sSkip)
def g_Sizes_eq : Gn := fnG true 2 b_Sizes_eq
abbrev s__law_told_right : Stmt := top 29
def d__law_told_right : DefR := ⟨fun K => He.ga K "_law_told_right", "_law_told_right", "_law_told_right", defArgs s__law_told_right, defBody s__law_told_right, defScope s__law_told_right, [], []⟩
abbrev N__law_told_right : List Str := ["_law_sizes_here", "_law_due", "_law_told", "_law_again", "_law_box_here"]
theorem sc__law_told_right : FnScope N__law_told_right ["_law_sizes_here"] (defScope s__law_told_right) := ⟨rfl, rfl, rfl, by decide +kernel, rfl, by decide +kernel, by decide +kernel⟩
def b__law_told_right : SX := (sSeq (sAsg (eCall 3 g__law_due_boxes (as1 (e1 (propG 23 g_Sizes_heights) (eV 0)) (as1 (e1 (propG 23 g_Sizes_widths) (eV 0)) (as1 (e1 (propG 23 g_Sizes_table) (eV 0)) as0)))) (gN 1))
    (sSeq (sAsg (eN eLstD (as1 (eGenM 23 11 y_Sizes_boxes (eV 0)) (as1 (eGenM 23 11 y_Sizes_boxes (eV 0)) as0))) (gN 2))
    (sSeq (sIf (tOrX (tBool (e2 neB (e1 reprG (eV 2)) (e1 reprG (eN eLstD (as1 (eV 1) (as1 (eV 1) as0)))))) (tOrX (tBool (e2 neB (e1 (lenOwnG 23 g_Sizes_len) (eV 0)) (eN lenG (as1 (eV 1) as0)))) (tBool (e2 neB (e1 (boolLG 23 g_Sizes_len) (eV 0)) (e2 neB (eV 1) (eN eLstD as0)))))) (sSeq (sRet (eK (.bl false)))
    sSkip) sSkip)
    (sSeq (sAsg (eCall 0 (mkG true 23 g_Sizes_init_1) as0) (gN 3))
    (sSeq (sFor (iSeq (eV 1)) (gN 4) (sSeq (sIf (tBool (e2 neB (e1 (lenOwnG 23 g_Sizes_len) (e2 (binOwnG 23 g_Sizes_and) (eCall 1 (mkG true 23 g_Sizes_init_2) (as1 (eV 4) as0)) (eV 3))) (eK (.int 0)))) (sSeq (sRet (eK (.bl false)))
    sSkip) sSkip)
    (sSeq (sAsg (e2 (binOwnG 23 g_Sizes_or) (eV 3) (eCall 1 (mkG true 23 g_Sizes_init_2) (as1 (eV 4) as0))) (gN 3))
    sSkip)))
    (sSeq (sRet (eAnd (e2 eqB (e1 (reprOwnG 23 g_Sizes_repr) (eV 0)) (e2 addD (e2 addD (eK (.str [83, 105, 122, 101, 115, 40])) (e1 strG (eN lenG (as1 (eV 1) as0)))) (eK (.str [32, 98, 111, 120, 101, 115, 41])))) (e2 (eqOwnG false 23 ["NoneType", "bool", "int", "str", "tuple", "list", "dict"] [23] g_Sizes_eq) (eV 3) (eV 0))))
    sSkip))))))
def g__law_told_right : Gn := fnG true 5 b__law_told_right
abbrev s_Sizes_every : Stmt := inClass (top 18) 1
def d_Sizes_every : DefR := ⟨cgA "Sizes" "every", "every", "Sizes.every", defArgs s_Sizes_every, defBody s_Sizes_every, defScope s_Sizes_every, [], []⟩
abbrev N_Sizes_every : List Str := ["cls"]
theorem sc_Sizes_every : FnScope N_Sizes_every ["cls"] (defScope s_Sizes_every) := ⟨rfl, rfl, rfl, by decide +kernel, rfl, by decide +kernel, by decide +kernel⟩
def b_Sizes_every : SX := (sSeq (sRet (eCallV 0 23 1 (mkG true 23 g_Sizes_init_2) (as1 (eN eTupD (as1 (eK (.int 1)) (as1 (eK .non) (as1 (eK (.int 1)) (as1 (eK .non) as0))))) as0)))
    sSkip)
def g_Sizes_every : Gn := fnG true 1 b_Sizes_every
abbrev s_Sizes_invert : Stmt := inClass (top 18) 13
def d_Sizes_invert : DefR := ⟨fun K => He.ma K (He.ga K "Sizes") "__invert__", "__invert__", "Sizes.__invert__", defArgs s_Sizes_invert, defBody s_Sizes_invert, defScope s_Sizes_invert, [], []⟩
abbrev N_Sizes_invert : List Str := ["self"]
theorem sc_Sizes_invert : FnScope N_Sizes_invert ["self"] (defScope s_Sizes_invert) := ⟨rfl, rfl, rfl, by decide +kernel, rfl, by decide +kernel, by decide +kernel⟩
def b_Sizes_invert : SX := (sSeq (sRet (eCallK 0 1 (mkG true 23 g_Sizes_init_1_grid) as0 (as1 (eCall 3 g_mixed_grid (as1 (eK kc_EVERY_GRID) (as1 (e1 (fldG [23] 11) (eV 0)) (as1 (eK (.str [102, 105, 114, 115, 116])) as0)))) as0)))
    sSkip)
def g_Sizes_invert : Gn := fnG true 1 b_Sizes_invert
def aD_Sizes_init_4 : List DV → List DV := fun ds => match ds with | [x0, x1, x2, x3] => [x0, .d (.non)] | _ => []
def rD_Sizes_init_4 : List DV → List DV := fun ds => match ds with | [x0, x1, x2, x3] => [x1, x2, x3] | _ => []
def aG_Sizes_init_4 {β : Type} : List β → List β → List β → List β := fun us mv ws => match us, mv, ws with | [x0, x1, x2, x3], [y0], [] => [x0, y0] | _, _, _ => []
def rG_Sizes_init_4 {β : Type} : List β → List β → List β → List β := fun us mv ws => match us, mv, ws with | [x0, x1, x2, x3], [y0], [] => [x1, x2, x3] | _, _, _ => []
def g_Sizes_init_4 : Gn := starG true 5 b_Sizes_init aD_Sizes_init_4 rD_Sizes_init_4
def aD_Sizes_init_5 : List DV → List DV := fun ds => match ds with | [x0, x1, x2, x3, x4] => [x0, .d (.non)] | _ => []
def rD_Sizes_init_5 : List DV → List DV := fun ds => match ds with | [x0, x1, x2, x3, x4] => [x1, x2, x3, x4] | _ => []
def aG_Sizes_init_5 {β : Type} : List β → List β → List β → List β := fun us mv ws => match us, mv, ws with | [x0, x1, x2, x3, x4], [y0], [] => [x0, y0] | _, _, _ => []
def rG_Sizes_init_5 {β : Type} : List β → List β → List β → List β := fun us mv ws => match us, mv, ws with | [x0, x1, x2, x3, x4], [y0], [] => [x1, x2, x3, x4] | _, _, _ => []
def g_Sizes_init_5 : Gn := starG true 5 b_Sizes_init aD_Sizes_init_5 rD_Sizes_init_5
abbrev s__law_sizes : Stmt := top 27
def d__law_sizes : DefR := ⟨fun K => He.ga K "_law_sizes", "_law_sizes", "_law_sizes", defArgs s__law_sizes, defBody s__law_sizes, defScope s__law_sizes, [], []⟩
abbrev N__law_sizes : List Str := ["_law_some"]
theorem sc__law_sizes : FnScope N__law_sizes ["_law_some"] (defScope s__law_sizes) := ⟨rfl, rfl, rfl, by decide +kernel, rfl, by decide +kernel, by decide +kernel⟩
def b__law_sizes : SX := (sSeq (sIf (tBool (e2 ltD (eN lenG (as1 (eV 0) as0)) (eK (.int 2)))) (sSeq (sRet (eIf (tBool (e2 eqB (eV 0) (eN eLstD as0))) (eCall 0 (mkG true 23 g_Sizes_init_1) as0) (eCall 1 (mkG true 23 g_Sizes_init_2) (as1 (e2 ixD (eV 0) (eK (.int 0))) as0))))
    sSkip) sSkip)
    (sSeq (sIf (tBool (e2 eqB (eN lenG (as1 (eV 0) as0)) (eK (.int 2)))) (sSeq (sRet (eCall 2 (mkG true 23 g_Sizes_init_3) (as1 (e2 ixD (eV 0) (eK (.int 0))) (as1 (e2 ixD (eV 0) (eK (.int 1))) as0))))
    sSkip) sSkip)
    (sSeq (sRet (eIf (tBool (e2 eqB (eN lenG (as1 (eV 0) as0)) (eK (.int 3)))) (eCall 3 (mkG true 23 g_Sizes_init_4) (as1 (e2 ixD (eV 0) (eK (.int 0))) (as1 (e2 ixD (eV 0) (eK (.int 1))) (as1 (e2 ixD (eV 0) (eK (.int 2))) as0)))) (eCall 4 (mkG true 23 g_Sizes_init_5) (as1 (e2 ixD (eV 0) (eK (.int 0))) (as1 (e2 ixD (eV 0) (eK (.int 1))) (as1 (e2 ixD (eV 0) (eK (.int 2))) (as1 (e2 ixD (eV 0) (eK (.int 3))) as0)))))))
    sSkip)))
def g__law_sizes : Gn := fnG true 1 b__law_sizes
abbrev s__law_draw : Stmt := top 22
def d__law_draw : DefR := ⟨fun K => He.ga K "_law_draw", "_law_draw", "_law_draw", defArgs s__law_draw, defBody s__law_draw, defScope s__law_draw, [], []⟩
abbrev N__law_draw : List Str := ["_law_pool_here", "_law_many", "_law_was", "_law_digit"]
theorem sc__law_draw : FnScope N__law_draw ["_law_pool_here", "_law_many"] (defScope s__law_draw) := ⟨rfl, rfl, rfl, by decide +kernel, rfl, by decide +kernel, by decide +kernel⟩
def b__law_draw : SX := (sSeq (sAsg (e2 addD (e2 ixD (eV 0) (eK (.int 2))) (eK (.int 1))) (gIx (eV 0) (eK (.int 2))))
    (sSeq (sAsg (eN intG (as1 (e2 ixD (eV 0) (eK (.int 0))) as0)) (gN 2))
    (sSeq (sAsg (e2 modD (eN intG (as1 (e2 addD (e2 addD (e2 mulD (eV 2) (e2 addD (e2 modD (eV 2) (eK (.int 44017))) (eK (.int 27011)))) (e2 mulD (eK (.int 70001)) (e2 ixD (eV 0) (eK (.int 2))))) (eK (.int 13))) as0)) (eK (.int 2147483399))) (gIx (eV 0) (eK (.int 0))))
    (sSeq (sIf (tBool (e2 gtD (e2 ixD (eV 0) (eK (.int 1))) (eK (.int 0)))) (sSeq (sAsg (eN divmodG (as1 (e2 ixD (eV 0) (eK (.int 1))) (as1 (eV 1) as0))) (gT 2 (gsC (gIx (eV 0) (eK (.int 1))) (gsC (gN 3) gsN))))
    (sSeq (sRet (eV 3))
    sSkip)) sSkip)
    (sSeq (sRet (e2 modD (eN intG (as1 (e2 fdivD (e2 ixD (eV 0) (eK (.int 0))) (eK (.int 32))) as0)) (eV 1)))
    sSkip)))))
def g__law_draw : Gn := fnG true 4 b__law_draw
abbrev s__law_low : Stmt := top 23
def d__law_low : DefR := ⟨fun K => He.ga K "_law_low", "_law_low", "_law_low", defArgs s__law_low, defBody s__law_low, defScope s__law_low, [], []⟩
abbrev N__law_low : List Str := ["_law_pool_here", "_law_near", "_law_far"]
theorem sc__law_low : FnScope N__law_low ["_law_pool_here"] (defScope s__law_low) := ⟨rfl, rfl, rfl, by decide +kernel, rfl, by decide +kernel, by decide +kernel⟩
def b__law_low : SX := (sSeq (sPar2 1 2 (as1 (e2 addD (eK (.int 1)) (eCall 2 g__law_draw (as1 (eV 0) (as1 (eK (.int 12)) as0)))) (as1 (e2 subD (e2 subD (e2 powD (eK (.int 10)) (eK (.int 9))) (eK (.int 1))) (eCall 2 g__law_draw (as1 (eV 0) (as1 (eK (.int 3)) as0)))) as0)))
    (sSeq (sRet (e2 ixD (eN eLstD (as1 (eK (.int 1)) (as1 (eK (.int 1)) (as1 (eK (.int 2)) (as1 (eK (.int 3)) (as1 (eV 1) (as1 (eV 1) (as1 (eV 2) as0)))))))) (eCall 2 g__law_draw (as1 (eV 0) (as1 (eK (.int 7)) as0)))))
    sSkip))
def g__law_low : Gn := fnG true 3 b__law_low
abbrev s__law_ends : Stmt := top 24
def d__law_ends : DefR := ⟨fun K => He.ga K "_law_ends", "_law_ends", "_law_ends", defArgs s__law_ends, defBody s__law_ends, defScope s__law_ends, [], []⟩
abbrev N__law_ends : List Str := ["_law_pool_here", "_law_low_here", "_law_high"]
theorem sc__law_ends : FnScope N__law_ends ["_law_pool_here"] (defScope s__law_ends) := ⟨rfl, rfl, rfl, by decide +kernel, rfl, by decide +kernel, by decide +kernel⟩
def b__law_ends : SX := (sSeq (sAsg (eCall 1 g__law_low (as1 (eV 0) as0)) (gN 1))
    (sSeq (sAsg (eN minG (as1 (e2 addD (eV 1) (e2 ixD (eN eLstD (as1 (eK (.int 0)) (as1 (eK (.int 0)) (as1 (eK (.int 1)) (as1 (eK (.int 2)) (as1 (eCall 2 g__law_draw (as1 (eV 0) (as1 (eK (.int 9)) as0))) (as1 (e2 powD (eK (.int 10)) (eK (.int 8))) as0))))))) (eCall 2 g__law_draw (as1 (eV 0) (as1 (eK (.int 6)) as0))))) (as1 (e2 subD (e2 powD (eK (.int 10)) (eK (.int 9))) (eK (.int 1))) as0))) (gN 2))
    (sSeq (sRet (eN eTupD (as1 (eV 1) (as1 (e2 ixD (eN eLstD (as1 (eV 2) (as1 (eV 2) (as1 (eK .non) as0)))) (eCall 2 g__law_draw (as1 (eV 0) (as1 (eK (.int 3)) as0)))) as0))))
    sSkip)))
def g__law_ends : Gn := fnG true 3 b__law_ends
abbrev s__law_box : Stmt := top 25
def d__law_box : DefR := ⟨fun K => He.ga K "_law_box", "_law_box", "_law_box", defArgs s__law_box, defBody s__law_box, defScope s__law_box, [], []⟩
abbrev N__law_box : List Str := ["_law_pool_here"]
theorem sc__law_box : FnScope N__law_box ["_law_pool_here"] (defScope s__law_box) := ⟨rfl, rfl, rfl, by decide +kernel, rfl, by decide +kernel, by decide +kernel⟩
def b__law_box : SX := (sSeq (sRet (e2 addD (eCall 1 g__law_ends (as1 (eV 0) as0)) (eCall 1 g__law_ends (as1 (eV 0) as0))))
    sSkip)
def g__law_box : Gn := fnG true 1 b__law_box
abbrev s__law_boxes : Stmt := top 26
def d__law_boxes : DefR := ⟨fun K => He.ga K "_law_boxes", "_law_boxes", "_law_boxes", defArgs s__law_boxes, defBody s__law_boxes, defScope s__law_boxes, [], []⟩
abbrev N__law_boxes : List Str := ["_law_pool_here", "_law_many", "_law_turn"]
theorem sc__law_boxes : FnScope N__law_boxes ["_law_pool_here", "_law_many"] (defScope s__law_boxes) := ⟨rfl, rfl, rfl, by decide +kernel, rfl, by decide +kernel, by decide +kernel⟩
def b__law_boxes : SX := (sSeq (sRet (eLc [2] (iRange1 (eCall 2 g__law_draw (as1 (eV 0) (as1 (e2 addD (eV 1) (eK (.int 1))) as0)))) (gN 2) tTrue (eCall 1 g__law_box (as1 (eV 0) as0))))
    sSkip)
def g__law_boxes : Gn := fnG true 3 b__law_boxes
abbrev s__law_right : Stmt := top 30
def d__law_right : DefR := ⟨fun K => He.ga K "_law_right", "_law_right", "_law_right", defArgs s__law_right, defBody s__law_right, defScope s__law_right, [], []⟩
abbrev N__law_right : List Str := ["_law_pool_here", "_law_turn", "_law_sizes_here"]
theorem sc__law_right : FnScope N__law_right ["_law_pool_here"] (defScope s__law_right) := ⟨rfl, rfl, rfl, by decide +kernel, rfl, by decide +kernel, by decide +kernel⟩
def b__law_right : SX := (sSeq (sFor (iRange1 (eK (.int 5))) (gN 1) (sSeq (sAsg (eCall 1 g__law_sizes (as1 (eCall 2 g__law_boxes (as1 (eV 0) (as1 (eK (.int 4)) as0))) as0)) (gN 2))
    (sSeq (sIf (tOrX (tNotX (tTru (eCall 1 g__law_told_right (as1 (eV 2) as0)))) (tNotX (tTru (eCall 1 g__law_told_right (as1 (e1 (unOwnG 23 g_Sizes_invert) (eV 2)) as0))))) (sSeq (sRet (eK (.bl false)))
    sSkip) sSkip)
    sSkip)))
    (sSeq (sRet (eK (.bl true)))
    sSkip))
def g__law_right : Gn := fnG true 3 b__law_right
abbrev s__law_pool : Stmt := top 21
def d__law_pool : DefR := ⟨fun K => He.ga K "_law_pool", "_law_pool", "_law_pool", defArgs s__law_pool, defBody s__law_pool, defScope s__law_pool, [], []⟩
abbrev N__law_pool : List Str := ["_law_cell_here", "_law_digits"]
theorem sc__law_pool : FnScope N__law_pool ["_law_cell_here"] (defScope s__law_pool) := ⟨rfl, rfl, rfl, by decide +kernel, rfl, by decide +kernel, by decide +kernel⟩
def b__law_pool : SX := (sSeq (sAsg (eIf (tOrX (tBool (e2 ltD (eV 0) (eK (.int 0)))) (tBool (e2 geD (eV 0) (e2 powD (eK (.int 10)) (eK (.int 18)))))) (eN absG (as1 (eV 0) as0)) (eK (.int 0))) (gN 1))
    (sSeq (sRet (eN eLstC (as1 (e2 modD (eN intG (as1 (eV 0) as0)) (eK (.int 2147483399))) (as1 (eV 1) (as1 (eK (.int 0)) as0)))))
    sSkip))
def g__law_pool : Gn := fnG false 2 b__law_pool
abbrev s__law_cell : Stmt := top 20
def d__law_cell : DefR := ⟨fun K => He.ga K "_law_cell", "_law_cell", "_law_cell", defArgs s__law_cell, defBody s__law_cell, defScope s__law_cell, [], []⟩
abbrev N__law_cell : List Str := ["_law_script", "_law_k", "_law_state_here", "_law_cell_here"]
theorem sc__law_cell : FnScope N__law_cell ["_law_script", "_law_k"] (defScope s__law_cell) := ⟨rfl, rfl, rfl, by decide +kernel, rfl, by decide +kernel, by decide +kernel⟩
def b__law_cell : SX := (sSeq (sIf (tBool (e2 ltD (eV 1) (eN lenG (as1 (eV 0) as0)))) (sSeq (sRet (eN intG (as1 (e2 ixD (eV 0) (eV 1)) as0)))
    sSkip) sSkip)
    (sSeq (sAsg (e2 modD (eN intG (as1 (e2 mulD (eK (.int 50021)) (e2 addD (e2 addD (e2 mulD (eV 1) (eV 1)) (e2 mulD (eK (.int 9)) (eV 1))) (eK (.int 7)))) as0)) (eK (.int 2147483399))) (gN 2))
    (sSeq (sFor (iSeq (eSl (eV 0) oN (oS (eK (.int 3))))) (gN 3) (sSeq (sAsg (e2 modD (eN intG (as1 (e2 addD (e2 mulD (eV 2) (eK (.int 40111))) (eV 3)) as0)) (eK (.int 2147483399))) (gN 2))
    sSkip))
    (sSeq (sRet (eV 2))
    sSkip))))
def g__law_cell : Gn := fnG true 4 b__law_cell
abbrev s_law : Stmt := top 31
def d_law : DefR := ⟨fun K => He.ga K "law", "law", "law", defArgs s_law, defBody s_law, defScope s_law, [], []⟩
abbrev N_law : List Str := ["_law_script", "_law_sizes_here", "_law_beyond", "_law_due", "_law_k", "_law_box_here"]
theorem sc_law : FnScope N_law ["_law_script"] (defScope s_law) := ⟨rfl, rfl, rfl, by decide +kernel, rfl, by decide +kernel, by decide +kernel⟩
def b_law : SX := (sSeq (sAsg (eCall 2 (mkG true 23 g_Sizes_init_3) (as1 (eN eTupD (as1 (eK (.int 1)) (as1 (eK .non) (as1 (eK (.int 1)) (as1 (eK (.int 9)) as0))))) (as1 (eN eTupD (as1 (eK (.int 3)) (as1 (eK (.int 5)) (as1 (eK (.int 4)) (as1 (eK .non) as0))))) as0))) (gN 1))
    (sSeq (sIf (tBool (e2 neB (e1 reprG (eGenM 23 11 y_Sizes_boxes (eV 1))) (eK (.str [91, 40, 49, 44, 32, 50, 44, 32, 49, 44, 32, 57, 41, 44, 32, 40, 51, 44, 32, 53, 44, 32, 49, 44, 32, 78, 111, 110, 101, 41, 44, 32, 40, 54, 44, 32, 78, 111, 110, 101, 44, 32, 49, 44, 32, 57, 41, 93])))) (sSeq (sRet (eK (.bl false)))
    sSkip) sSkip)
    (sSeq (sIf (tOrX (tNotX (tTru (eCall 1 g__law_told_right (as1 (eCall 0 (mkG true 23 g_Sizes_init_1) as0) as0)))) (tNotX (tTru (eCall 1 g__law_told_right (as1 (fun _ μ => g_Sizes_every [.d (.cls 23)] μ) as0))))) (sSeq (sRet (eK (.bl false)))
    sSkip) sSkip)
    (sSeq (sAsg (e1 (unOwnG 23 g_Sizes_invert) (eCall 1 (mkG true 23 g_Sizes_init_2) (as1 (eN eTupD (as1 (eK (.int 1)) (as1 (e2 powD (eK (.int 10)) (eK (.int 9))) (as1 (eK (.int 1)) (as1 (e2 powD (eK (.int 10)) (eK (.int 9))) as0))))) as0))) (gN 2))
    (sSeq (sAsg (eN eLstD (as1 (eN eTupD (as1 (eK (.int 1)) (as1 (e2 powD (eK (.int 10)) (eK (.int 9))) (as1 (e2 addD (e2 powD (eK (.int 10)) (eK (.int 9))) (eK (.int 1))) (as1 (eK .non) as0))))) (as1 (eN eTupD (as1 (e2 addD (e2 powD (eK (.int 10)) (eK (.int 9))) (eK (.int 1))) (as1 (eK .non) (as1 (eK (.int 1)) (as1 (eK .non) as0))))) as0))) (gN 3))
    (sSeq (sIf (tOrX (tBool (e2 neB (e1 reprG (eGenM 23 11 y_Sizes_boxes (eV 2))) (e1 reprG (eV 3)))) (tOrX (tBool (e2 neB (e1 (lenOwnG 23 g_Sizes_len) (eV 2)) (eK (.int 2)))) (tBool (e2 neB (e1 (reprOwnG 23 g_Sizes_repr) (eV 2)) (eK (.str [83, 105, 122, 101, 115, 40, 50, 32, 98, 111, 120, 101, 115, 41])))))) (sSeq (sRet (eK (.bl false)))
    sSkip) sSkip)
    (sSeq (sRet (eN allG (as1 (eLc [4] (iRange1 (eN maxG (as1 (eK (.int 2)) (as1 (eN minG (as1 (eN lenG (as1 (eV 0) as0)) (as1 (eK (.int 5)) as0))) as0)))) (gN 4) tTrue (eCall 1 g__law_right (as1 (eCall 1 g__law_pool (as1 (eCall 2 g__law_cell (as1 (eV 0) (as1 (eV 4) as0))) as0)) as0))) as0)))
    sSkip)))))))
def g_law : Gn := fnG true 6 b_law
/-- what is known of the module -/
structure Fx (K : Fr) (mg : Str → Option Value) : Prop where
  f_abs : mg "abs" = none
  f_all : mg "all" = none
  f_any : mg "any" = none
  f_bool : mg "bool" = none
  f_divmod : mg "divmod" = none
  f_enumerate : mg "enumerate" = none
  f_int : mg "int" = none
  f_isinstance : mg "isinstance" = none
  f_len : mg "len" = none
  f_list : mg "list" = none
  f_max : mg "max" = none
  f_min : mg "min" = none
  f_range : mg "range" = none
  f_repr : mg "repr" = none
  f_set : mg "set" = none
  f_sorted : mg "sorted" = none
  f_str : mg "str" = none
  f_tuple : mg "tuple" = none
  f_zip : mg "zip" = none
  g_EVERY_GRID : mg "EVERY_GRID" = some (.ref (He.ga K "EVERY_GRID"))
  g_Sizes : mg "Sizes" = some (.ref (He.ga K "Sizes"))
  g__law_box : mg "_law_box" = some (.ref (He.ga K "_law_box"))
  g__law_boxes : mg "_law_boxes" = some (.ref (He.ga K "_law_boxes"))
  g__law_cell : mg "_law_cell" = some (.ref (He.ga K "_law_cell"))
  g__law_draw : mg "_law_draw" = some (.ref (He.ga K "_law_draw"))
  g__law_due_boxes : mg "_law_due_boxes" = some (.ref (He.ga K "_law_due_boxes"))
  g__law_ends : mg "_law_ends" = some (.ref (He.ga K "_law_ends"))
  g__law_low : mg "_law_low" = some (.ref (He.ga K "_law_low"))
  g__law_pool : mg "_law_pool" = some (.ref (He.ga K "_law_pool"))
  g__law_right : mg "_law_right" = some (.ref (He.ga K "_law_right"))
  g__law_sizes : mg "_law_sizes" = some (.ref (He.ga K "_law_sizes"))
  g__law_told_right : mg "_law_told_right" = some (.ref (He.ga K "_law_told_right"))
  g_band_at : mg "band_at" = some (.ref (He.ga K "band_at"))
  g_band_starts : mg "band_starts" = some (.ref (He.ga K "band_starts"))
  g_grid_of_boxes : mg "grid_of_boxes" = some (.ref (He.ga K "grid_of_boxes"))
  g_is_box : mg "is_box" = some (.ref (He.ga K "is_box"))
  g_is_from_to : mg "is_from_to" = some (.ref (He.ga K "is_from_to"))
  g_is_integer : mg "is_integer" = some (.ref (He.ga K "is_integer"))
  g_is_stretch : mg "is_stretch" = some (.ref (He.ga K "is_stretch"))
  g_joined_grid : mg "joined_grid" = some (.ref (He.ga K "joined_grid"))
  g_law : mg "law" = some (.ref (He.ga K "law"))
  g_mixed_grid : mg "mixed_grid" = some (.ref (He.ga K "mixed_grid"))
  g_runs_in : mg "runs_in" = some (.ref (He.ga K "runs_in"))
  g_truth_by : mg "truth_by" = some (.ref (He.ga K "truth_by"))
  k_MOST_SIDE : ∃ t, mg "MOST_SIDE" = some (.int 1000000000 t)
  c_Sizes : Cls K (He.ga K (clsNm 23))
  m_Sizes : Mk K (He.ga K (clsNm 23)) (He.ma K (He.ga K "Sizes") "__init__")
  p_Sizes_heights : PropOf K (He.ga K (clsNm 23)) "heights" (He.ma K (He.ga K "Sizes") "heights") (pgA "Sizes" "heights" K)
  p_Sizes_table : PropOf K (He.ga K (clsNm 23)) "table" (He.ma K (He.ga K "Sizes") "table") (pgA "Sizes" "table" K)
  p_Sizes_widths : PropOf K (He.ga K (clsNm 23)) "widths" (He.ma K (He.ga K "Sizes") "widths") (pgA "Sizes" "widths" K)
  cm_Sizes_every : ClX.CRead K (He.ga K (clsNm 23)) (.type "type") ∧ ClX.CMet K (He.ga K (clsNm 23)) (.type "type") "every" (He.ma K (He.ga K "Sizes") "every") (cgA "Sizes" "every" K)
  kc_EVERY_GRID : kOk K kc_EVERY_GRID (.ref (He.ga K "EVERY_GRID")) = true
  me_Sizes_boxes : Meth K (He.ga K (clsNm 23)) "boxes" (He.ma K (He.ga K "Sizes") "boxes")
  du_Sizes_and : PySem.W.findIn K (.ref (He.ga K (clsNm 23))) "__and__" = some (some (.ref (d_Sizes_and.ad K))) ∧ PySem.W.isFn K (.ref (d_Sizes_and.ad K)) = true
  du_Sizes_eq : PySem.W.findIn K (.ref (He.ga K (clsNm 23))) "__eq__" = some (some (.ref (d_Sizes_eq.ad K))) ∧ PySem.W.isFn K (.ref (d_Sizes_eq.ad K)) = true
  du_Sizes_invert : PySem.W.findIn K (.ref (He.ga K (clsNm 23))) "__invert__" = some (some (.ref (d_Sizes_invert.ad K))) ∧ PySem.W.isFn K (.ref (d_Sizes_invert.ad K)) = true
  du_Sizes_len : PySem.W.findIn K (.ref (He.ga K (clsNm 23))) "__len__" = some (some (.ref (d_Sizes_len.ad K))) ∧ PySem.W.isFn K (.ref (d_Sizes_len.ad K)) = true
  du_Sizes_or : PySem.W.findIn K (.ref (He.ga K (clsNm 23))) "__or__" = some (some (.ref (d_Sizes_or.ad K))) ∧ PySem.W.isFn K (.ref (d_Sizes_or.ad K)) = true
  du_Sizes_repr : PySem.W.findIn K (.ref (He.ga K (clsNm 23))) "__repr__" = some (some (.ref (d_Sizes_repr.ad K))) ∧ PySem.W.isFn K (.ref (d_Sizes_repr.ad K)) = true
  lt_Sizes : PySem.W.findIn K (.ref (He.ga K (clsNm 23))) "__bool__" = some none
  sf_Sizes : PySem.W.selfFirst K (He.ga K (clsNm 23)) = true
  nf_Sizes : nfChk K 23 ["NoneType", "bool", "int", "str", "tuple", "list", "dict"] [23] = true
  is_Sizes : isiChk K (.ref (He.ga K "Sizes")) [("NoneType", false), ("bool", false), ("int", false), ("str", false), ("tuple", false), ("list", false), ("dict", false)] [(23, true)] = true
  a_grid : FldOk K [23] 11
  fn_is_integer : ∃ fd, FunR K d_is_integer fd
  kp_is_integer : PySem.W.keepIn K (.ref (d_is_integer.ad K)) = true
  fn_is_stretch : ∃ fd, FunR K d_is_stretch fd
  kp_is_stretch : PySem.W.keepIn K (.ref (d_is_stretch.ad K)) = true
  fn_is_box : ∃ fd, FunR K d_is_box fd
  kp_is_box : PySem.W.keepIn K (.ref (d_is_box.ad K)) = true
  fn_joined_grid : ∃ fd, FunR K d_joined_grid fd
  kp_joined_grid : PySem.W.keepIn K (.ref (d_joined_grid.ad K)) = true
  fn_band_starts : ∃ fd, FunR K d_band_starts fd
  kp_band_starts : PySem.W.keepIn K (.ref (d_band_starts.ad K)) = true
  fn_is_from_to : ∃ fd, FunR K d_is_from_to fd
  kp_is_from_to : PySem.W.keepIn K (.ref (d_is_from_to.ad K)) = true
  fn_grid_of_boxes : ∃ fd, FunR K d_grid_of_boxes fd
  kp_grid_of_boxes : PySem.W.keepIn K (.ref (d_grid_of_boxes.ad K)) = true
  fn_Sizes_init : ∃ fd, FunR K d_Sizes_init fd
  kp_Sizes_init : PySem.W.keepIn K (.ref (d_Sizes_init.ad K)) = true
  fn_Sizes_heights : ∃ fd, FunR K d_Sizes_heights fd
  kp_Sizes_heights : PySem.W.keepIn K (.ref (d_Sizes_heights.ad K)) = true
  fn_Sizes_table : ∃ fd, FunR K d_Sizes_table fd
  kp_Sizes_table : PySem.W.keepIn K (.ref (d_Sizes_table.ad K)) = true
  fn_Sizes_widths : ∃ fd, FunR K d_Sizes_widths fd
  kp_Sizes_widths : PySem.W.keepIn K (.ref (d_Sizes_widths.ad K)) = true
  fn_Sizes_boxes : ∃ fd, FunR K d_Sizes_boxes fd
  kp_Sizes_boxes : PySem.W.keepIn K (.ref (d_Sizes_boxes.ad K)) = true
  fn__law_due_boxes : ∃ fd, FunR K d__law_due_boxes fd
  kp__law_due_boxes : PySem.W.keepIn K (.ref (d__law_due_boxes.ad K)) = true
  fn_runs_in : ∃ fd, FunR K d_runs_in fd
  kp_runs_in : PySem.W.keepIn K (.ref (d_runs_in.ad K)) = true
  fn_Sizes_len : ∃ fd, FunR K d_Sizes_len fd
  kp_Sizes_len : PySem.W.keepIn K (.ref (d_Sizes_len.ad K)) = true
  fn_band_at : ∃ fd, FunR K d_band_at fd
  kp_band_at : PySem.W.keepIn K (.ref (d_band_at.ad K)) = true
  fn_truth_by : ∃ fd, FunR K d_truth_by fd
  kp_truth_by : PySem.W.keepIn K (.ref (d_truth_by.ad K)) = true
  fn_mixed_grid : ∃ fd, FunR K d_mixed_grid fd
  kp_mixed_grid : PySem.W.keepIn K (.ref (d_mixed_grid.ad K)) = true
  fn_Sizes_and : ∃ fd, FunR K d_Sizes_and fd
  kp_Sizes_and : PySem.W.keepIn K (.ref (d_Sizes_and.ad K)) = true
  fn_Sizes_or : ∃ fd, FunR K d_Sizes_or fd
  kp_Sizes_or : PySem.W.keepIn K (.ref (d_Sizes_or.ad K)) = true
  fn_Sizes_repr : ∃ fd, FunR K d_Sizes_repr fd
  kp_Sizes_repr : PySem.W.keepIn K (.ref (d_Sizes_repr.ad K)) = true
  fn_Sizes_eq : ∃ fd, FunR K d_Sizes_eq fd
  kp_Sizes_eq : PySem.W.keepIn K (.ref (d_Sizes_eq.ad K)) = true
  fn__law_told_right : ∃ fd, FunR K d__law_told_right fd
  kp__law_told_right : PySem.W.keepIn K (.ref (d__law_told_right.ad K)) = true
  fn_Sizes_every : ∃ fd, FunR K d_Sizes_every fd
  kp_Sizes_every : PySem.W.keepIn K (.ref (d_Sizes_every.ad K)) = true
  fn_Sizes_invert : ∃ fd, FunR K d_Sizes_invert fd
  kp_Sizes_invert : PySem.W.keepIn K (.ref (d_Sizes_invert.ad K)) = true
  fn__law_sizes : ∃ fd, FunR K d__law_sizes fd
  kp__law_sizes : PySem.W.keepIn K (.ref (d__law_sizes.ad K)) = true
  fn__law_draw : ∃ fd, FunR K d__law_draw fd
  kp__law_draw : PySem.W.keepIn K (.ref (d__law_draw.ad K)) = true
  fn__law_low : ∃ fd, FunR K d__law_low fd
  kp__law_low : PySem.W.keepIn K (.ref (d__law_low.ad K)) = true
  fn__law_ends : ∃ fd, FunR K d__law_ends fd
  kp__law_ends : PySem.W.keepIn K (.ref (d__law_ends.ad K)) = true
  fn__law_box : ∃ fd, FunR K d__law_box fd
  kp__law_box : PySem.W.keepIn K (.ref (d__law_box.ad K)) = true
  fn__law_boxes : ∃ fd, FunR K d__law_boxes fd
  kp__law_boxes : PySem.W.keepIn K (.ref (d__law_boxes.ad K)) = true
  fn__law_right : ∃ fd, FunR K d__law_right fd
  kp__law_right : PySem.W.keepIn K (.ref (d__law_right.ad K)) = true
  fn__law_pool : ∃ fd, FunR K d__law_pool fd
  kp__law_pool : PySem.W.keepIn K (.ref (d__law_pool.ad K)) = true
  fn__law_cell : ∃ fd, FunR K d__law_cell fd
  kp__law_cell : PySem.W.keepIn K (.ref (d__law_cell.ad K)) = true
  fn_law : ∃ fd, FunR K d_law fd
  kp_law : PySem.W.keepIn K (.ref (d_law.ad K)) = true
end DL.K05
set_option Elab.async false
set_option linter.all false
set_option maxRecDepth 100000
set_option maxHeartbeats 0
namespace DL.K05
open PySem PySem.Spec PyProof.Rows L2 DL
def nms0 : List PySem.Str := ["ScreenError", "InvalidBox", "MOST_SIDE", "is_integer", "EVERY_GRID", "is_stretch", "is_box", "band_starts", "band_at", "is_from_to", "grid_of_boxes", "joined_grid", "truth_by", "mixed_grid", "runs_in", "Sizes", "_law_cell", "_law_pool", "_law_draw", "_law_low", "_law_ends", "_law_box", "_law_boxes", "_law_sizes", "_law_due_boxes", "_law_told_right", "_law_right"]
def nms : List PySem.Str := nms0
def chk0 (K : Fr) : Bool := (He.Fa.ok K (.free "abs")) && ((He.Fa.ok K (.free "all")) && ((He.Fa.ok K (.free "any")) && ((He.Fa.ok K (.free "bool")) && ((He.Fa.ok K (.free "divmod")) && ((He.Fa.ok K (.free "enumerate")) && ((He.Fa.ok K (.free "int")) && ((He.Fa.ok K (.free "isinstance")) && ((He.Fa.ok K (.free "len")) && ((He.Fa.ok K (.free "list")) && ((He.Fa.ok K (.free "max")) && ((He.Fa.ok K (.free "min")))))))))))))
def chk1 (K : Fr) : Bool := (He.Fa.ok K (.free "range")) && ((He.Fa.ok K (.free "repr")) && ((He.Fa.ok K (.free "set")) && ((He.Fa.ok K (.free "sorted")) && ((He.Fa.ok K (.free "str")) && ((He.Fa.ok K (.free "tuple")) && ((He.Fa.ok K (.free "zip")) && ((He.Fa.ok K (.glo "EVERY_GRID")) && ((He.Fa.ok K (.glo "Sizes")) && ((He.Fa.ok K (.glo "_law_box")) && ((He.Fa.ok K (.glo "_law_boxes")) && ((He.Fa.ok K (.glo "_law_cell")))))))))))))
def chk2 (K : Fr) : Bool := (He.Fa.ok K (.glo "_law_draw")) && ((He.Fa.ok K (.glo "_law_due_boxes")) && ((He.Fa.ok K (.glo "_law_ends")) && ((He.Fa.ok K (.glo "_law_low")) && ((He.Fa.ok K (.glo "_law_pool")) && ((He.Fa.ok K (.glo "_law_right")) && ((He.Fa.ok K (.glo "_law_sizes")) && ((He.Fa.ok K (.glo "_law_told_right")) && ((He.Fa.ok K (.glo "band_at")) && ((He.Fa.ok K (.glo "band_starts")) && ((He.Fa.ok K (.glo "grid_of_boxes")) && ((He.Fa.ok K (.glo "is_box")))))))))))))
def chk3 (K : Fr) : Bool := (He.Fa.ok K (.glo "is_from_to")) && ((He.Fa.ok K (.glo "is_integer")) && ((He.Fa.ok K (.glo "is_stretch")) && ((He.Fa.ok K (.glo "joined_grid")) && ((He.Fa.ok K (.glo "law")) && ((He.Fa.ok K (.glo "mixed_grid")) && ((He.Fa.ok K (.glo "runs_in")) && ((He.Fa.ok K (.glo "truth_by")) && ((He.Fa.ok K (.int "MOST_SIDE" 1000000000)) && ((He.Fa.ok K (.cls "Sizes")) && ((He.Fa.ok K (.mkr "Sizes")) && ((propB K "Sizes" "heights"))))))))))))
def chk4 (K : Fr) : Bool := (propB K "Sizes" "table") && ((propB K "Sizes" "widths") && ((cmB K "Sizes" "every") && ((kOk K kc_EVERY_GRID (.ref (He.ga K "EVERY_GRID"))) && ((He.Fa.ok K (.meth "Sizes" "boxes")) && ((He.Fa.ok K (.meth "Sizes" "__and__")) && ((He.Fa.ok K (.meth "Sizes" "__eq__")) && ((He.Fa.ok K (.meth "Sizes" "__invert__")) && ((He.Fa.ok K (.meth "Sizes" "__len__")) && ((He.Fa.ok K (.meth "Sizes" "__or__")) && ((He.Fa.ok K (.meth "Sizes" "__repr__")) && ((He.eqO (PySem.W.findIn K (.ref (He.ga K "Sizes")) "__bool__") (some none)))))))))))))
def chk5 (K : Fr) : Bool := (PySem.W.selfFirst K (He.ga K "Sizes")) && ((nfChk K 23 ["NoneType", "bool", "int", "str", "tuple", "list", "dict"] [23]) && ((isiChk K (.ref (He.ga K "Sizes")) [("NoneType", false), ("bool", false), ("int", false), ("str", false), ("tuple", false), ("list", false), ("dict", false)] [(23, true)]) && (((He.Fa.ok K (.cls "Sizes") && He.Fa.ok K (.noat "Sizes" "grid"))))))
def chk (K : Fr) : Bool := chk0 K && (chk1 K && (chk2 K && (chk3 K && (chk4 K && (chk5 K)))))
def fns : List DefR := [d_is_integer, d_is_stretch, d_is_box, d_joined_grid, d_band_starts, d_is_from_to, d_grid_of_boxes, d_Sizes_init, d_Sizes_heights, d_Sizes_table, d_Sizes_widths, d_Sizes_boxes, d__law_due_boxes, d_runs_in, d_Sizes_len, d_band_at, d_truth_by, d_mixed_grid, d_Sizes_and, d_Sizes_or, d_Sizes_repr, d_Sizes_eq, d__law_told_right, d_Sizes_every, d_Sizes_invert, d__law_sizes, d__law_draw, d__law_low, d__law_ends, d__law_box, d__law_boxes, d__law_right, d__law_pool, d__law_cell, d_law]
abbrev R : PySem.W.OpenRow := PySem.W.OpenLaw.row PySem.Challenge.rw_streamscreens_k05_boxes_of_sizes
abbrev hk : PySem.W.Hook := hookR 3000 chk fns
def ob (s : PySem.W.SharedT) : He.AlD := obsRG 3000 chk fns (HandSHeadRun.getT s)
theorem ob_eq (s : PySem.W.SharedT) : ob s = hk.obs s.abs := obsRG_eq (HandSHeadRun.getT_eq s)
theorem runF (w : World) : HandSHeadRun.RunEq R (PySem.W.view R.prog [31]) hk ob 6000 nms (w.withFollow "special-get-raises" false) := by
  intro os
  kernel_rfl
theorem runT (w : World) : HandSHeadRun.RunEq R (PySem.W.view R.prog [31]) hk ob 6000 nms (w.withFollow "special-get-raises" true) := by
  intro os
  kernel_rfl
theorem run (w : World) : HandSHeadRun.RunEq R (PySem.W.view R.prog [31]) hk ob 6000 nms w := PySem.W.byRow2 "special-get-raises" runF runT w
theorem facts {K : Fr} {h : Heap} {mg : Str → Option Value} (X : K.In h) (G : h.Ns mainGlobals mg) (c : SaysR chk fns K) : Fx K mg := by
  have z := c.test
  obtain ⟨y0, z⟩ := He.ba z
  obtain ⟨y1, z⟩ := He.ba z
  obtain ⟨y2, z⟩ := He.ba z
  obtain ⟨y3, z⟩ := He.ba z
  obtain ⟨y4, z⟩ := He.ba z
  have y5 := z
  obtain ⟨q0, y0⟩ := He.ba y0
  obtain ⟨q1, y0⟩ := He.ba y0
  obtain ⟨q2, y0⟩ := He.ba y0
  obtain ⟨q3, y0⟩ := He.ba y0
  obtain ⟨q4, y0⟩ := He.ba y0
  obtain ⟨q5, y0⟩ := He.ba y0
  obtain ⟨q6, y0⟩ := He.ba y0
  obtain ⟨q7, y0⟩ := He.ba y0
  obtain ⟨q8, y0⟩ := He.ba y0
  obtain ⟨q9, y0⟩ := He.ba y0
  obtain ⟨q10, y0⟩ := He.ba y0
  have q11 := y0
  obtain ⟨q12, y1⟩ := He.ba y1
  obtain ⟨q13, y1⟩ := He.ba y1
  obtain ⟨q14, y1⟩ := He.ba y1
  obtain ⟨q15, y1⟩ := He.ba y1
  obtain ⟨q16, y1⟩ := He.ba y1
  obtain ⟨q17, y1⟩ := He.ba y1
  obtain ⟨q18, y1⟩ := He.ba y1
  obtain ⟨q19, y1⟩ := He.ba y1
  obtain ⟨q20, y1⟩ := He.ba y1
  obtain ⟨q21, y1⟩ := He.ba y1
  obtain ⟨q22, y1⟩ := He.ba y1
  have q23 := y1
  obtain ⟨q24, y2⟩ := He.ba y2
  obtain ⟨q25, y2⟩ := He.ba y2
  obtain ⟨q26, y2⟩ := He.ba y2
  obtain ⟨q27, y2⟩ := He.ba y2
  obtain ⟨q28, y2⟩ := He.ba y2
  obtain ⟨q29, y2⟩ := He.ba y2
  obtain ⟨q30, y2⟩ := He.ba y2
  obtain ⟨q31, y2⟩ := He.ba y2
  obtain ⟨q32, y2⟩ := He.ba y2
  obtain ⟨q33, y2⟩ := He.ba y2
  obtain ⟨q34, y2⟩ := He.ba y2
  have q35 := y2
  obtain ⟨q36, y3⟩ := He.ba y3
  obtain ⟨q37, y3⟩ := He.ba y3
  obtain ⟨q38, y3⟩ := He.ba y3
  obtain ⟨q39, y3⟩ := He.ba y3
  obtain ⟨q40, y3⟩ := He.ba y3
  obtain ⟨q41, y3⟩ := He.ba y3
  obtain ⟨q42, y3⟩ := He.ba y3
  obtain ⟨q43, y3⟩ := He.ba y3
  obtain ⟨q44, y3⟩ := He.ba y3
  obtain ⟨q45, y3⟩ := He.ba y3
  obtain ⟨q46, y3⟩ := He.ba y3
  have q47 := y3
  obtain ⟨q48, y4⟩ := He.ba y4
  obtain ⟨q49, y4⟩ := He.ba y4
  obtain ⟨q50, y4⟩ := He.ba y4
  obtain ⟨q51, y4⟩ := He.ba y4
  obtain ⟨q52, y4⟩ := He.ba y4
  obtain ⟨q53, y4⟩ := He.ba y4
  obtain ⟨q54, y4⟩ := He.ba y4
  obtain ⟨q55, y4⟩ := He.ba y4
  obtain ⟨q56, y4⟩ := He.ba y4
  obtain ⟨q57, y4⟩ := He.ba y4
  obtain ⟨q58, y4⟩ := He.ba y4
  have q59 := y4
  obtain ⟨q60, y5⟩ := He.ba y5
  obtain ⟨q61, y5⟩ := He.ba y5
  obtain ⟨q62, y5⟩ := He.ba y5
  have q63 := y5
  have r63 : FldOk K [23] 11 := by
    intro c hc
    simp only [List.mem_cons, List.not_mem_nil, or_false] at hc
    subst hc
    all_goals (first | exact ⟨He.cls_ok (He.ba q63).1, He.noat_ok (He.ba q63).2⟩ | fail)
  have e0 := c.def_ 0 (d := d_is_integer) rfl
  have e1 := c.def_ 1 (d := d_is_stretch) rfl
  have e2 := c.def_ 2 (d := d_is_box) rfl
  have e3 := c.def_ 3 (d := d_joined_grid) rfl
  have e4 := c.def_ 4 (d := d_band_starts) rfl
  have e5 := c.def_ 5 (d := d_is_from_to) rfl
  have e6 := c.def_ 6 (d := d_grid_of_boxes) rfl
  have e7 := c.def_ 7 (d := d_Sizes_init) rfl
  have e8 := c.def_ 8 (d := d_Sizes_heights) rfl
  have e9 := c.def_ 9 (d := d_Sizes_table) rfl
  have e10 := c.def_ 10 (d := d_Sizes_widths) rfl
  have e11 := c.def_ 11 (d := d_Sizes_boxes) rfl
  have e12 := c.def_ 12 (d := d__law_due_boxes) rfl
  have e13 := c.def_ 13 (d := d_runs_in) rfl
  have e14 := c.def_ 14 (d := d_Sizes_len) rfl
  have e15 := c.def_ 15 (d := d_band_at) rfl
  have e16 := c.def_ 16 (d := d_truth_by) rfl
  have e17 := c.def_ 17 (d := d_mixed_grid) rfl
  have e18 := c.def_ 18 (d := d_Sizes_and) rfl
  have e19 := c.def_ 19 (d := d_Sizes_or) rfl
  have e20 := c.def_ 20 (d := d_Sizes_repr) rfl
  have e21 := c.def_ 21 (d := d_Sizes_eq) rfl
  have e22 := c.def_ 22 (d := d__law_told_right) rfl
  have e23 := c.def_ 23 (d := d_Sizes_every) rfl
  have e24 := c.def_ 24 (d := d_Sizes_invert) rfl
  have e25 := c.def_ 25 (d := d__law_sizes) rfl
  have e26 := c.def_ 26 (d := d__law_draw) rfl
  have e27 := c.def_ 27 (d := d__law_low) rfl
  have e28 := c.def_ 28 (d := d__law_ends) rfl
  have e29 := c.def_ 29 (d := d__law_box) rfl
  have e30 := c.def_ 30 (d := d__law_boxes) rfl
  have e31 := c.def_ 31 (d := d__law_right) rfl
  have e32 := c.def_ 32 (d := d__law_pool) rfl
  have e33 := c.def_ 33 (d := d__law_cell) rfl
  have e34 := c.def_ 34 (d := d_law) rfl
  exact ⟨(He.free_ok X G q0),
    (He.free_ok X G q1),
    (He.free_ok X G q2),
    (He.free_ok X G q3),
    (He.free_ok X G q4),
    (He.free_ok X G q5),
    (He.free_ok X G q6),
    (He.free_ok X G q7),
    (He.free_ok X G q8),
    (He.free_ok X G q9),
    (He.free_ok X G q10),
    (He.free_ok X G q11),
    (He.free_ok X G q12),
    (He.free_ok X G q13),
    (He.free_ok X G q14),
    (He.free_ok X G q15),
    (He.free_ok X G q16),
    (He.free_ok X G q17),
    (He.free_ok X G q18),
    (He.glo_ok X G q19),
    (He.glo_ok X G q20),
    (He.glo_ok X G q21),
    (He.glo_ok X G q22),
    (He.glo_ok X G q23),
    (He.glo_ok X G q24),
    (He.glo_ok X G q25),
    (He.glo_ok X G q26),
    (He.glo_ok X G q27),
    (He.glo_ok X G q28),
    (He.glo_ok X G q29),
    (He.glo_ok X G q30),
    (He.glo_ok X G q31),
    (He.glo_ok X G q32),
    (He.glo_ok X G q33),
    (He.glo_ok X G q34),
    (He.glo_ok X G q35),
    (He.glo_ok X G q36),
    (He.glo_ok X G q37),
    (He.glo_ok X G q38),
    (He.glo_ok X G q39),
    (He.glo_ok X G q40),
    (He.glo_ok X G q41),
    (He.glo_ok X G q42),
    (He.glo_ok X G q43),
    (He.int_ok X G q44),
    (He.cls_ok q45),
    (He.mkr_ok q46),
    (propB_ok q47),
    (propB_ok q48),
    (propB_ok q49),
    (cmB_ok q50),
    (q51),
    (He.meth_ok q52),
    (⟨(He.meth_ok q53).at_, (He.meth_ok q53).fn⟩),
    (⟨(He.meth_ok q54).at_, (He.meth_ok q54).fn⟩),
    (⟨(He.meth_ok q55).at_, (He.meth_ok q55).fn⟩),
    (⟨(He.meth_ok q56).at_, (He.meth_ok q56).fn⟩),
    (⟨(He.meth_ok q57).at_, (He.meth_ok q57).fn⟩),
    (⟨(He.meth_ok q58).at_, (He.meth_ok q58).fn⟩),
    (He.eqO_ok q59),
    (q60),
    (q61),
    (q62),
    r63,
    e0,
    (let ⟨_, q⟩ := e0; q.kp),
    e1,
    (let ⟨_, q⟩ := e1; q.kp),
    e2,
    (let ⟨_, q⟩ := e2; q.kp),
    e3,
    (let ⟨_, q⟩ := e3; q.kp),
    e4,
    (let ⟨_, q⟩ := e4; q.kp),
    e5,
    (let ⟨_, q⟩ := e5; q.kp),
    e6,
    (let ⟨_, q⟩ := e6; q.kp),
    e7,
    (let ⟨_, q⟩ := e7; q.kp),
    e8,
    (let ⟨_, q⟩ := e8; q.kp),
    e9,
    (let ⟨_, q⟩ := e9; q.kp),
    e10,
    (let ⟨_, q⟩ := e10; q.kp),
    e11,
    (let ⟨_, q⟩ := e11; q.kp),
    e12,
    (let ⟨_, q⟩ := e12; q.kp),
    e13,
    (let ⟨_, q⟩ := e13; q.kp),
    e14,
    (let ⟨_, q⟩ := e14; q.kp),
    e15,
    (let ⟨_, q⟩ := e15; q.kp),
    e16,
    (let ⟨_, q⟩ := e16; q.kp),
    e17,
    (let ⟨_, q⟩ := e17; q.kp),
    e18,
    (let ⟨_, q⟩ := e18; q.kp),
    e19,
    (let ⟨_, q⟩ := e19; q.kp),
    e20,
    (let ⟨_, q⟩ := e20; q.kp),
    e21,
    (let ⟨_, q⟩ := e21; q.kp),
    e22,
    (let ⟨_, q⟩ := e22; q.kp),
    e23,
    (let ⟨_, q⟩ := e23; q.kp),
    e24,
    (let ⟨_, q⟩ := e24; q.kp),
    e25,
    (let ⟨_, q⟩ := e25; q.kp),
    e26,
    (let ⟨_, q⟩ := e26; q.kp),
    e27,
    (let ⟨_, q⟩ := e27; q.kp),
    e28,
    (let ⟨_, q⟩ := e28; q.kp),
    e29,
    (let ⟨_, q⟩ := e29; q.kp),
    e30,
    (let ⟨_, q⟩ := e30; q.kp),
    e31,
    (let ⟨_, q⟩ := e31; q.kp),
    e32,
    (let ⟨_, q⟩ := e32; q.kp),
    e33,
    (let ⟨_, q⟩ := e33; q.kp),
    e34,
    (let ⟨_, q⟩ := e34; q.kp)⟩
end DL.K05
set_option Elab.async false
set_option linter.all false
set_option maxRecDepth 100000
set_option maxHeartbeats 0
namespace DL.K05
open PySem PySem.Spec PyProof.Rows L2 DL
section
variable {P : Program} {w : World} {K : Fr} {mg : Str → Option Value} {base : Heap}
theorem body_is_integer (h : Fx K mg) : BodyOk P w K mg base 0 N_is_integer "is_integer" (defScope s_is_integer) (d_is_integer.ad K) (defBody s_is_integer) b_is_integer := fun cd A outer s H E hr => by
  have nd := sc_is_integer.nd
  exact (dss_cons (ds_ret (de_and (de_isi "int" rfl h.f_isinstance rfl h.f_int (by decide +kernel) (by decide) (de_v 0)) (de_and (de_not (de_isi "bool" rfl h.f_isinstance rfl h.f_bool (by decide +kernel) (by decide) (de_v 0))) (de_one (de_lele (de_v 1) (de_v 0) (de_v 2))))))
    dss_nil)
theorem c_is_integer (h : Fx K mg) : CD P w K mg base 1 (.ref (d_is_integer.ad K)) 3 [] g_is_integer := by
  obtain ⟨fd, F⟩ := h.fn_is_integer
  exact CD.pos true F sc_is_integer (body_is_integer h) (F.bindsN fun _ _ _ _ _ _ us hl => match us, hl with | [_, _, _], _ => rfl)
theorem body_is_stretch (h : Fx K mg) : BodyOk P w K mg base 1 N_is_stretch "is_stretch" (defScope s_is_stretch) (d_is_stretch.ad K) (defBody s_is_stretch) b_is_stretch := fun cd A outer s H E hr => by
  have nd := sc_is_stretch.nd
  exact (dss_cons (ds_ret (de_and (de_call ((c_is_integer h).x (hr.mono (j := 1) (by decide)) takesB) rfl h.g_is_integer h.kp_is_integer (da_cons (de_v 0) (da_cons de_int (da_cons (de_g (v := .int 1000000000) (w := .int 1000000000) rfl h.k_MOST_SIDE.choose_spec ⟨_, rfl⟩ (fun _ => rfl)) da_nil)))) (de_one (de_or (de_is (de_v 1) de_non) (de_one (de_call ((c_is_integer h).x (hr.mono (j := 1) (by decide)) takesB) rfl h.g_is_integer h.kp_is_integer (da_cons (de_v 1) (da_cons (de_v 0) (da_cons (de_g (v := .int 1000000000) (w := .int 1000000000) rfl h.k_MOST_SIDE.choose_spec ⟨_, rfl⟩ (fun _ => rfl)) da_nil)))))))))
    dss_nil)
theorem c_is_stretch (h : Fx K mg) : CD P w K mg base 2 (.ref (d_is_stretch.ad K)) 2 [] g_is_stretch := by
  obtain ⟨fd, F⟩ := h.fn_is_stretch
  exact CD.pos true F sc_is_stretch (body_is_stretch h) (F.bindsN fun _ _ _ _ _ _ us hl => match us, hl with | [_, _], _ => rfl)
theorem body_is_box (h : Fx K mg) : BodyOk P w K mg base 2 N_is_box "is_box" (defScope s_is_box) (d_is_box.ad K) (defBody s_is_box) b_is_box := fun cd A outer s H E hr => by
  have nd := sc_is_box.nd
  exact (dss_cons (ds_if (dt_w (dw_or (dt_not (dt_val (de_isi "tuple" rfl h.f_isinstance rfl h.f_tuple (by decide +kernel) (by decide) (de_v 0)))) (dw_or1 (dt_ne hr.r.units (de_len rfl h.f_len (da_cons (de_v 0) da_nil)) de_int)))) (dss_cons (ds_ret de_bl)
    dss_nil) dss_nil)
    (dss_cons (ds_ret (de_and (de_call ((c_is_stretch h).x (hr.mono (j := 2) (by decide)) takesB) rfl h.g_is_stretch h.kp_is_stretch (da_cons (de_ix (de_v 0) de_int) (da_cons (de_ix (de_v 0) de_int) da_nil))) (de_one (de_call ((c_is_stretch h).x (hr.mono (j := 2) (by decide)) takesB) rfl h.g_is_stretch h.kp_is_stretch (da_cons (de_ix (de_v 0) de_int) (da_cons (de_ix (de_v 0) de_int) da_nil))))))
    dss_nil))
theorem c_is_box (h : Fx K mg) : CD P w K mg base 3 (.ref (d_is_box.ad K)) 1 [] g_is_box := by
  obtain ⟨fd, F⟩ := h.fn_is_box
  exact CD.pos true F sc_is_box (body_is_box h) (F.bindsN fun _ _ _ _ _ _ us hl => match us, hl with | [_], _ => rfl)
theorem body_joined_grid (h : Fx K mg) : BodyOk P w K mg base 0 N_joined_grid "joined_grid" (defScope s_joined_grid) (d_joined_grid.ad K) (defBody s_joined_grid) b_joined_grid := fun cd A outer s H E hr => by
  have nd := sc_joined_grid.nd
  exact (dss_cons (ds_asg (de_v 0) (dg_tup rfl (dgs_cons (dg_n 6 nd) (dgs_cons (dg_n 7 nd) (dgs_cons (dg_n 8 nd) dgs_nil)))))
    (dss_cons (ds_setLc 1 [("index", 9)] rfl nd (di_range1 rfl h.f_range (de_len rfl h.f_len (da_cons (de_v 6) da_nil))) (blkOk_by (N := N_joined_grid) (sc := defScope s_joined_grid) (by decide +kernel)) (fun _ _ _ _ _ => (dp_n 9 nd)) (fun _ _ _ _ _ => (dts_one (dt_w (dw_or (dt_eq hr.r.units (de_v 9) de_int) (dw_or1 (dt_ne hr.r.units (de_ix (de_v 8) (de_v 9)) (de_ix (de_v 8) (de_sub (de_v 9) de_int)))))))) (fun _ _ _ _ _ => (de_v 9)))
    (dss_cons (ds_set 2 nd (de_lc [("index", 9)] rfl nd (di_seq (de_v 1)) (blkOk_by (N := N_joined_grid) (sc := defScope s_joined_grid) (by decide +kernel)) (fun _ _ _ _ _ => (dp_n 9 nd)) (fun _ _ _ _ _ => dts_nil) (fun _ _ _ _ _ => (de_ix (de_v 8) (de_v 9)))))
    (dss_cons (ds_set 3 nd (de_lc [("index", 9)] rfl nd (di_range1 rfl h.f_range (de_len rfl h.f_len (da_cons (de_v 7) da_nil))) (blkOk_by (N := N_joined_grid) (sc := defScope s_joined_grid) (by decide +kernel)) (fun _ _ _ _ _ => (dp_n 9 nd)) (fun _ _ _ _ _ => dts_nil) (fun _ _ _ _ _ => (de_lc [("row", 10)] rfl nd (di_seq (de_v 2)) (blkOk_by (by rfl)) (fun _ _ _ _ _ => (dp_n 10 nd)) (fun _ _ _ _ _ => dts_nil) (fun _ _ _ _ _ => (de_ix (de_v 10) (de_v 9)))))))
    (dss_cons (ds_set 4 nd (de_lc [("index", 9)] rfl nd (di_range1 rfl h.f_range (de_len rfl h.f_len (da_cons (de_v 7) da_nil))) (blkOk_by (N := N_joined_grid) (sc := defScope s_joined_grid) (by decide +kernel)) (fun _ _ _ _ _ => (dp_n 9 nd)) (fun _ _ _ _ _ => (dts_one (dt_w (dw_or (dt_eq hr.r.units (de_v 9) de_int) (dw_or1 (dt_ne hr.r.units (de_ix (de_v 3) (de_v 9)) (de_ix (de_v 3) (de_sub (de_v 9) de_int)))))))) (fun _ _ _ _ _ => (de_v 9))))
    (dss_cons (ds_set 5 nd (de_ctup rfl h.f_tuple (da_cons (de_lc [("row", 10)] rfl nd (di_seq (de_v 2)) (blkOk_by (N := N_joined_grid) (sc := defScope s_joined_grid) (by decide +kernel)) (fun _ _ _ _ _ => (dp_n 10 nd)) (fun _ _ _ _ _ => dts_nil) (fun _ _ _ _ _ => (de_ctup rfl h.f_tuple (da_cons (de_lc [("index", 9)] rfl nd (di_seq (de_v 4)) (blkOk_by (by rfl)) (fun _ _ _ _ _ => (dp_n 9 nd)) (fun _ _ _ _ _ => dts_nil) (fun _ _ _ _ _ => (de_ix (de_v 10) (de_v 9)))) da_nil)))) da_nil)))
    (dss_cons (ds_ret (de_tup (da_cons (de_ctup rfl h.f_tuple (da_cons (de_lc [("index", 9)] rfl nd (di_seq (de_v 1)) (blkOk_by (N := N_joined_grid) (sc := defScope s_joined_grid) (by decide +kernel)) (fun _ _ _ _ _ => (dp_n 9 nd)) (fun _ _ _ _ _ => dts_nil) (fun _ _ _ _ _ => (de_ix (de_v 6) (de_v 9)))) da_nil)) (da_cons (de_ctup rfl h.f_tuple (da_cons (de_lc [("index", 9)] rfl nd (di_seq (de_v 4)) (blkOk_by (N := N_joined_grid) (sc := defScope s_joined_grid) (by decide +kernel)) (fun _ _ _ _ _ => (dp_n 9 nd)) (fun _ _ _ _ _ => dts_nil) (fun _ _ _ _ _ => (de_ix (de_v 7) (de_v 9)))) da_nil)) (da_cons (de_v 5) da_nil)))))
    dss_nil)))))))
theorem c_joined_grid (h : Fx K mg) : CD P w K mg base 1 (.ref (d_joined_grid.ad K)) 1 [] g_joined_grid := by
  obtain ⟨fd, F⟩ := h.fn_joined_grid
  exact CD.pos true F sc_joined_grid (body_joined_grid h) (F.bindsN fun _ _ _ _ _ _ us hl => match us, hl with | [_], _ => rfl)
theorem body_band_starts (h : Fx K mg) : BodyOk P w K mg base 0 N_band_starts "band_starts" (defScope s_band_starts) (d_band_starts.ad K) (defBody s_band_starts) b_band_starts := fun cd A outer s H E hr => by
  have nd := sc_band_starts.nd
  exact (dss_cons (ds_setLc 1 [("low", 3), ("high", 4)] rfl nd (di_seq (de_v 0)) (blkOk_by (N := N_band_starts) (sc := defScope s_band_starts) (by decide +kernel)) (fun _ _ _ _ _ => (dp_tup rfl (dps_cons (dp_n 3 nd) (dps_cons (dp_n 4 nd) dps_nil)))) (fun _ _ _ _ _ => dts_nil) (fun _ _ _ _ _ => (de_v 3)))
    (dss_cons (ds_setLc 2 [("low", 3), ("high", 4)] rfl nd (di_seq (de_v 0)) (blkOk_by (N := N_band_starts) (sc := defScope s_band_starts) (by decide +kernel)) (fun _ _ _ _ _ => (dp_tup rfl (dps_cons (dp_n 3 nd) (dps_cons (dp_n 4 nd) dps_nil)))) (fun _ _ _ _ _ => (dts_one (dt_isnot (de_v 4) de_non))) (fun _ _ _ _ _ => (de_add (de_v 4) de_int)))
    (dss_cons (ds_ret (de_ctup rfl h.f_tuple (da_cons (de_sortedSet rfl rfl h.f_sorted rfl h.f_set (de_add (de_add (de_lst (da_cons de_int da_nil)) (de_v 1)) (de_v 2))) da_nil)))
    dss_nil)))
theorem c_band_starts (h : Fx K mg) : CD P w K mg base 1 (.ref (d_band_starts.ad K)) 1 [] g_band_starts := by
  obtain ⟨fd, F⟩ := h.fn_band_starts
  exact CD.pos true F sc_band_starts (body_band_starts h) (F.bindsN fun _ _ _ _ _ _ us hl => match us, hl with | [_], _ => rfl)
theorem body_is_from_to (h : Fx K mg) : BodyOk P w K mg base 0 N_is_from_to "is_from_to" (defScope s_is_from_to) (d_is_from_to.ad K) (defBody s_is_from_to) b_is_from_to := fun cd A outer s H E hr => by
  have nd := sc_is_from_to.nd
  exact (dss_cons (ds_ret (de_and (de_le (de_v 0) (de_v 2)) (de_one (de_or (de_is (de_v 1) de_non) (de_one (de_le (de_v 2) (de_v 1)))))))
    dss_nil)
theorem c_is_from_to (h : Fx K mg) : CD P w K mg base 1 (.ref (d_is_from_to.ad K)) 3 [] g_is_from_to := by
  obtain ⟨fd, F⟩ := h.fn_is_from_to
  exact CD.pos true F sc_is_from_to (body_is_from_to h) (F.bindsN fun _ _ _ _ _ _ us hl => match us, hl with | [_, _, _], _ => rfl)
theorem body_grid_of_boxes (h : Fx K mg) : BodyOk P w K mg base 1 N_grid_of_boxes "grid_of_boxes" (defScope s_grid_of_boxes) (d_grid_of_boxes.ad K) (defBody s_grid_of_boxes) b_grid_of_boxes := fun cd A outer s H E hr => by
  have nd := sc_grid_of_boxes.nd
  exact (dss_cons (ds_set 1 nd (de_call ((c_band_starts h).x (hr.mono (j := 1) (by decide)) takesB) rfl h.g_band_starts h.kp_band_starts (da_cons (de_lc [("box", 6)] rfl nd (di_seq (de_v 0)) (blkOk_by (N := N_grid_of_boxes) (sc := defScope s_grid_of_boxes) (by decide +kernel)) (fun _ _ _ _ _ => (dp_n 6 nd)) (fun _ _ _ _ _ => dts_nil) (fun _ _ _ _ _ => (de_sl (de_v 6) do_n (do_s de_int)))) da_nil)))
    (dss_cons (ds_set 2 nd (de_call ((c_band_starts h).x (hr.mono (j := 1) (by decide)) takesB) rfl h.g_band_starts h.kp_band_starts (da_cons (de_lc [("box", 6)] rfl nd (di_seq (de_v 0)) (blkOk_by (N := N_grid_of_boxes) (sc := defScope s_grid_of_boxes) (by decide +kernel)) (fun _ _ _ _ _ => (dp_n 6 nd)) (fun _ _ _ _ _ => dts_nil) (fun _ _ _ _ _ => (de_sl (de_v 6) (do_s de_int) do_n))) da_nil)))
    (dss_cons (ds_set 3 nd (de_lstC da_nil))
    (dss_cons (ds_for passB rfl (di_seq (de_v 1)) (dg_n 4 nd) (dss_cons (ds_set 5 nd (de_lc [("box", 6)] rfl nd (di_seq (de_v 0)) (blkOk_by (N := N_grid_of_boxes) (sc := defScope s_grid_of_boxes) (by decide +kernel)) (fun _ _ _ _ _ => (dp_n 6 nd)) (fun _ _ _ _ _ => (dts_one (dt_val (de_call ((c_is_from_to h).x (hr.mono (j := 1) (by decide)) takes0) rfl h.g_is_from_to h.kp_is_from_to (da_cons (de_ix (de_v 6) de_int) (da_cons (de_ix (de_v 6) de_int) (da_cons (de_v 4) da_nil))))))) (fun _ _ _ _ _ => (de_sl (de_v 6) (do_s de_int) do_n))))
    (dss_cons (ds_do (de_append (de_v 3) (de_ctup rfl h.f_tuple (da_cons (de_lc [("width", 7)] rfl nd (di_seq (de_v 2)) (blkOk_by (N := N_grid_of_boxes) (sc := defScope s_grid_of_boxes) (by decide +kernel)) (fun _ _ _ _ _ => (dp_n 7 nd)) (fun _ _ _ _ _ => dts_nil) (fun _ _ _ _ _ => (de_any rfl rfl h.f_any (da_cons (de_lc [("left", 8), ("right", 9)] rfl nd (di_seq (de_v 5)) (blkOk_by (by rfl)) (fun _ _ _ _ _ => (dp_tup rfl (dps_cons (dp_n 8 nd) (dps_cons (dp_n 9 nd) dps_nil)))) (fun _ _ _ _ _ => dts_nil) (fun _ _ _ _ _ => (de_call ((c_is_from_to h).x (hr.mono (j := 1) (by decide)) takes0) rfl h.g_is_from_to h.kp_is_from_to (da_cons (de_v 8) (da_cons (de_v 9) (da_cons (de_v 7) da_nil)))))) da_nil)))) da_nil))))
    dss_nil)))
    (dss_cons (ds_ret (de_tup (da_cons (de_v 1) (da_cons (de_v 2) (da_cons (de_ctup rfl h.f_tuple (da_cons (de_v 3) da_nil)) da_nil)))))
    dss_nil)))))
theorem c_grid_of_boxes (h : Fx K mg) : CD P w K mg base 2 (.ref (d_grid_of_boxes.ad K)) 1 [] g_grid_of_boxes := by
  obtain ⟨fd, F⟩ := h.fn_grid_of_boxes
  exact CD.pos true F sc_grid_of_boxes (body_grid_of_boxes h) (F.bindsN fun _ _ _ _ _ _ us hl => match us, hl with | [_], _ => rfl)
theorem body_Sizes_init (h : Fx K mg) : BodyOk P w K mg base 3 N_Sizes_init "Sizes.__init__" (defScope s_Sizes_init) (d_Sizes_init.ad K) (defBody s_Sizes_init) b_Sizes_init := fun cd A outer s H E hr => by
  have nd := sc_Sizes_init.nd
  exact (dss_cons (ds_for passB rfl (di_enum rfl h.f_enumerate (de_v 2)) (dg_tup rfl (dgs_cons (dg_n 3 nd) (dgs_cons (dg_n 4 nd) dgs_nil))) (dss_cons (ds_if (dt_not (dt_val (de_call ((c_is_box h).x (hr.mono (j := 3) (by decide)) takesB) rfl h.g_is_box h.kp_is_box (da_cons (de_v 4) da_nil)))) (dss_cons ds_never
    dss_nil) dss_nil)
    dss_nil))
    (dss_cons (ds_fld (i := 11) (cs := [23]) (de_v 0) (de_if (dt_is (de_v 1) de_non) (de_call ((c_joined_grid h).x (hr.mono (j := 1) (by decide)) takesB) rfl h.g_joined_grid h.kp_joined_grid (da_cons (de_call ((c_grid_of_boxes h).x (hr.mono (j := 2) (by decide)) takesB) rfl h.g_grid_of_boxes h.kp_grid_of_boxes (da_cons (de_v 2) da_nil)) da_nil)) (de_v 1)) h.a_grid (by decide +kernel))
    dss_nil))
theorem c_Sizes_init_3 (h : Fx K mg) : CD P w K mg base 4 (.ref (d_Sizes_init.ad K)) 3 [] g_Sizes_init_3 := by
  obtain ⟨fd, F⟩ := h.fn_Sizes_init
  refine CD.star (ps := ["self", "grid"]) (pv := "boxes") true [("grid", V.non)] aG_Sizes_init_3 rG_Sizes_init_3 F sc_Sizes_init (body_Sizes_init h) (by simp [DefR.kws, d_Sizes_init]) (by intro q hq; simpa [DefR.kws, d_Sizes_init, He.Dv.v] using hq) ⟨?_, ?_⟩ ?_ ?_
  · intro F α ds vs zs l1 l2 r
    match vs, zs, l1, l2, r with
    | [x0, x1, x2], [], _, _, r =>
      obtain ⟨e0, t0, rfl, p0, r⟩ := repVs_inv r
      obtain ⟨e1, t1, rfl, p1, r⟩ := repVs_inv r
      obtain ⟨e2, t2, rfl, p2, r⟩ := repVs_inv r
      obtain rfl := repVs_nil r
      exact ⟨⟨_, _, rfl, p0, _, _, rfl, rfl, rfl⟩, rfl⟩
  · intro F α ds vs zs l1 l2 r
    match vs, zs, l1, l2, r with
    | [x0, x1, x2], [], _, _, r =>
      obtain ⟨e0, t0, rfl, p0, r⟩ := repVs_inv r
      obtain ⟨e1, t1, rfl, p1, r⟩ := repVs_inv r
      obtain ⟨e2, t2, rfl, p2, r⟩ := repVs_inv r
      obtain rfl := repVs_nil r
      exact ⟨_, _, rfl, p1, _, _, rfl, p2, rfl⟩
  · intro vs mz zs us mv ws l1 l2 l3 r1 r2 r3
    match vs, mz, zs, l1, l2, l3, r1, r2, r3 with
    | [x0, x1, x2], [y0], [], _, _, _, r1, r2, r3 =>
      obtain ⟨ux0, sx0, rfl, ax0, r1⟩ := vals_inv r1
      obtain ⟨ux1, sx1, rfl, ax1, r1⟩ := vals_inv r1
      obtain ⟨ux2, sx2, rfl, ax2, r1⟩ := vals_inv r1
      obtain rfl := vals_nil r1
      obtain ⟨uy0, sy0, rfl, ay0, r2⟩ := vals_inv r2
      obtain rfl := vals_nil r2
      obtain rfl := vals_nil r3
      exact ⟨(.cons ax0 (.cons ay0 .nil)), (.cons ax1 (.cons ax2 .nil))⟩
  · intro D doc pm an cdv ct us mv ws l1 l2 l3
    match us, mv, ws, l1, l2, l3 with
    | [x0, x1, x2], [y0], [], _, _, _ => exact ⟨_, _, _, _, _, _, rfl, rfl, rfl⟩
theorem body_Sizes_heights (h : Fx K mg) : BodyOk P w K mg base 0 N_Sizes_heights "Sizes.heights" (defScope s_Sizes_heights) (d_Sizes_heights.ad K) (defBody s_Sizes_heights) b_Sizes_heights := fun cd A outer s H E hr => by
  have nd := sc_Sizes_heights.nd
  exact (dss_cons (ds_ret (de_ix (de_fld (i := 11) (cs := [23]) (de_v 0) h.a_grid (by decide +kernel)) de_int))
    dss_nil)
theorem c_Sizes_heights (h : Fx K mg) : CD P w K mg base 1 (.ref (d_Sizes_heights.ad K)) 1 [] g_Sizes_heights := by
  obtain ⟨fd, F⟩ := h.fn_Sizes_heights
  exact CD.pos true F sc_Sizes_heights (body_Sizes_heights h) (F.bindsN fun _ _ _ _ _ _ us hl => match us, hl with | [_], _ => rfl)
theorem body_Sizes_table (h : Fx K mg) : BodyOk P w K mg base 0 N_Sizes_table "Sizes.table" (defScope s_Sizes_table) (d_Sizes_table.ad K) (defBody s_Sizes_table) b_Sizes_table := fun cd A outer s H E hr => by
  have nd := sc_Sizes_table.nd
  exact (dss_cons (ds_ret (de_ix (de_fld (i := 11) (cs := [23]) (de_v 0) h.a_grid (by decide +kernel)) de_int))
    dss_nil)
theorem c_Sizes_table (h : Fx K mg) : CD P w K mg base 1 (.ref (d_Sizes_table.ad K)) 1 [] g_Sizes_table := by
  obtain ⟨fd, F⟩ := h.fn_Sizes_table
  exact CD.pos true F sc_Sizes_table (body_Sizes_table h) (F.bindsN fun _ _ _ _ _ _ us hl => match us, hl with | [_], _ => rfl)
theorem body_Sizes_widths (h : Fx K mg) : BodyOk P w K mg base 0 N_Sizes_widths "Sizes.widths" (defScope s_Sizes_widths) (d_Sizes_widths.ad K) (defBody s_Sizes_widths) b_Sizes_widths := fun cd A outer s H E hr => by
  have nd := sc_Sizes_widths.nd
  exact (dss_cons (ds_ret (de_ix (de_fld (i := 11) (cs := [23]) (de_v 0) h.a_grid (by decide +kernel)) de_int))
    dss_nil)
theorem c_Sizes_widths (h : Fx K mg) : CD P w K mg base 1 (.ref (d_Sizes_widths.ad K)) 1 [] g_Sizes_widths := by
  obtain ⟨fd, F⟩ := h.fn_Sizes_widths
  exact CD.pos true F sc_Sizes_widths (body_Sizes_widths h) (F.bindsN fun _ _ _ _ _ _ us hl => match us, hl with | [_], _ => rfl)
theorem gb_Sizes_boxes (h : Fx K mg) : GBody P w K mg base 2 N_Sizes_boxes "Sizes.boxes" (defScope s_Sizes_boxes) (d_Sizes_boxes.ad K) (defBody s_Sizes_boxes) y_Sizes_boxes := fun cd A outer s H E pn hr => by
  have nd := sc_Sizes_boxes.nd
  exact (dys_cons (dy_pl (ds_set 1 nd (de_add (de_lc [("height", 9)] rfl nd (di_seq (de_sl (de_prop (c := 23) (de_v 0) h.c_Sizes h.p_Sizes_heights (c_Sizes_heights h) (hr.mono (j := 2) (by decide))) (do_s de_int) do_n)) (blkOk_by (N := N_Sizes_boxes) (sc := defScope s_Sizes_boxes) (by decide +kernel)) (fun _ _ _ _ _ => (dp_n 9 nd)) (fun _ _ _ _ _ => dts_nil) (fun _ _ _ _ _ => (de_sub (de_v 9) de_int))) (de_lst (da_cons de_non da_nil)))))
    (dys_cons (dy_pl (ds_set 2 nd (de_add (de_lc [("width", 10)] rfl nd (di_seq (de_sl (de_prop (c := 23) (de_v 0) h.c_Sizes h.p_Sizes_widths (c_Sizes_widths h) (hr.mono (j := 2) (by decide))) (do_s de_int) do_n)) (blkOk_by (N := N_Sizes_boxes) (sc := defScope s_Sizes_boxes) (by decide +kernel)) (fun _ _ _ _ _ => (dp_n 10 nd)) (fun _ _ _ _ _ => dts_nil) (fun _ _ _ _ _ => (de_sub (de_v 10) de_int))) (de_lst (da_cons de_non da_nil)))))
    (dys_cons (dy_pl (ds_set 3 nd de_int))
    (dys_cons (dy_for owns_gcx rfl (di_zip3 rfl h.f_zip (de_prop (c := 23) (de_v 0) h.c_Sizes h.p_Sizes_heights (c_Sizes_heights h) (hr.mono (j := 2) (by decide))) (de_v 1) (de_prop (c := 23) (de_v 0) h.c_Sizes h.p_Sizes_table (c_Sizes_table h) (hr.mono (j := 2) (by decide)))) (dg_tup rfl (dgs_cons (dg_n 4 nd) (dgs_cons (dg_n 5 nd) (dgs_cons (dg_n 6 nd) dgs_nil)))) (dys_cons (dy_for owns_gcx rfl (di_enum rfl h.f_enumerate (de_v 6)) (dg_tup rfl (dgs_cons (dg_n 7 nd) (dgs_cons (dg_n 8 nd) dgs_nil))) (dys_cons (dy_pl (ds_if (dt_w (dw_and (dt_val (de_v 8)) (dw_and1 (dt_w (dw_or (dt_eq hr.r.units (de_v 7) de_int) (dw_or1 (dt_not (dt_val (de_ix (de_v 6) (de_sub (de_v 7) de_int)))))))))) (dss_cons (ds_set 3 nd (de_ix (de_prop (c := 23) (de_v 0) h.c_Sizes h.p_Sizes_widths (c_Sizes_widths h) (hr.mono (j := 2) (by decide))) (de_v 7)))
    dss_nil) dss_nil))
    (dys_cons (dy_if (dt_w (dw_and (dt_val (de_v 8)) (dw_and1 (dt_w (dw_or (dt_eq hr.r.units (de_add (de_v 7) de_int) (de_len rfl h.f_len (da_cons (de_v 6) da_nil))) (dw_or1 (dt_not (dt_val (de_ix (de_v 6) (de_add (de_v 7) de_int)))))))))) (dys_cons (dy_yield (de_tup (da_cons (de_v 4) (da_cons (de_v 5) (da_cons (de_v 3) (da_cons (de_ix (de_v 2) (de_v 7)) da_nil))))))
    dys_nil) dys_nil)
    dys_nil)))
    dys_nil))
    dys_nil))))
theorem cg_Sizes_boxes (h : Fx K mg) : ∃ fd, GenE.CFn P w K mg base 3 (d_Sizes_boxes.ad K) fd ["self"] (spY K 1 11 y_Sizes_boxes) ∧ Binds K fd ["self"] [] := by
  obtain ⟨fd, F⟩ := h.fn_Sizes_boxes
  exact ⟨fd, cfn_y F sc_Sizes_boxes (gb_Sizes_boxes h), F.bindsN fun _ _ _ _ _ _ us hl => match us, hl with | [_], _ => rfl⟩
theorem body__law_due_boxes (h : Fx K mg) : BodyOk P w K mg base 0 N__law_due_boxes "_law_due_boxes" (defScope s__law_due_boxes) (d__law_due_boxes.ad K) (defBody s__law_due_boxes) b__law_due_boxes := fun cd A outer s H E hr => by
  have nd := sc__law_due_boxes.nd
  exact (dss_cons (ds_par2 5 6 rfl nd (da_cons (de_add (de_clst rfl h.f_list (da_cons (de_sl (de_v 0) (do_s de_int) do_n) da_nil)) (de_lst (da_cons de_non da_nil))) (da_cons (de_add (de_clst rfl h.f_list (da_cons (de_sl (de_v 1) (do_s de_int) do_n) da_nil)) (de_lst (da_cons de_non da_nil))) da_nil)))
    (dss_cons (ds_set 3 nd (de_lstC da_nil))
    (dss_cons (ds_for passB rfl (di_range1 rfl h.f_range (de_len rfl h.f_len (da_cons (de_v 0) da_nil))) (dg_n 4 nd) (dss_cons (ds_set 7 nd (de_if (dt_is (de_ix (de_v 5) (de_v 4)) de_non) de_non (de_sub (de_ix (de_v 5) (de_v 4)) de_int)))
    (dss_cons (ds_set 8 nd de_non)
    (dss_cons (ds_for passB rfl (di_range1 rfl h.f_range (de_len rfl h.f_len (da_cons (de_v 1) da_nil))) (dg_n 9 nd) (dss_cons (ds_if (dt_w (dw_and (dt_val (de_ix (de_ix (de_v 2) (de_v 4)) (de_v 9))) (dw_and1 (dt_is (de_v 8) de_non)))) (dss_cons (ds_set 8 nd (de_ix (de_v 1) (de_v 9)))
    dss_nil) dss_nil)
    (dss_cons (ds_if (dt_w (dw_and (dt_isnot (de_v 8) de_non) (dw_and1 (dt_w (dw_or (dt_is (de_ix (de_v 6) (de_v 9)) de_non) (dw_or1 (dt_not (dt_val (de_ix (de_ix (de_v 2) (de_v 4)) (de_add (de_v 9) de_int)))))))))) (dss_cons (ds_do (de_append (de_v 3) (de_tup (da_cons (de_ix (de_v 0) (de_v 4)) (da_cons (de_v 7) (da_cons (de_v 8) (da_cons (de_if (dt_is (de_ix (de_v 6) (de_v 9)) de_non) de_non (de_sub (de_ix (de_v 6) (de_v 9)) de_int)) da_nil)))))))
    (dss_cons (ds_set 8 nd de_non)
    dss_nil)) dss_nil)
    dss_nil)))
    dss_nil))))
    (dss_cons (ds_ret (de_v 3))
    dss_nil))))
theorem c__law_due_boxes (h : Fx K mg) : CD P w K mg base 1 (.ref (d__law_due_boxes.ad K)) 3 [] g__law_due_boxes := by
  obtain ⟨fd, F⟩ := h.fn__law_due_boxes
  exact CD.pos true F sc__law_due_boxes (body__law_due_boxes h) (F.bindsN fun _ _ _ _ _ _ us hl => match us, hl with | [_, _, _], _ => rfl)
theorem body_runs_in (h : Fx K mg) : BodyOk P w K mg base 0 N_runs_in "runs_in" (defScope s_runs_in) (d_runs_in.ad K) (defBody s_runs_in) b_runs_in := fun cd A outer s H E hr => by
  have nd := sc_runs_in.nd
  exact (dss_cons (ds_set 1 nd (de_lstC da_nil))
    (dss_cons (ds_for passB rfl (di_enum rfl h.f_enumerate (de_ix (de_v 0) de_int)) (dg_tup rfl (dgs_cons (dg_n 2 nd) (dgs_cons (dg_n 3 nd) dgs_nil))) (dss_cons (ds_do (de_extend (de_v 1) (de_lc [("index", 4)] rfl nd (di_range1 rfl h.f_range (de_len rfl h.f_len (da_cons (de_v 3) da_nil))) (blkOk_by (N := N_runs_in) (sc := defScope s_runs_in) (by decide +kernel)) (fun _ _ _ _ _ => (dp_n 4 nd)) (fun _ _ _ _ _ => (dts_one (dt_w (dw_and (dt_val (de_ix (de_v 3) (de_v 4))) (dw_and1 (dt_w (dw_or (dt_eq hr.r.units (de_v 4) de_int) (dw_or1 (dt_not (dt_val (de_ix (de_v 3) (de_sub (de_v 4) de_int)))))))))))) (fun _ _ _ _ _ => (de_tup (da_cons (de_v 2) (da_cons (de_v 4) da_nil)))))))
    dss_nil))
    (dss_cons (ds_ret (de_v 1))
    dss_nil)))
theorem c_runs_in (h : Fx K mg) : CD P w K mg base 1 (.ref (d_runs_in.ad K)) 1 [] g_runs_in := by
  obtain ⟨fd, F⟩ := h.fn_runs_in
  exact CD.pos true F sc_runs_in (body_runs_in h) (F.bindsN fun _ _ _ _ _ _ us hl => match us, hl with | [_], _ => rfl)
theorem body_Sizes_len (h : Fx K mg) : BodyOk P w K mg base 1 N_Sizes_len "Sizes.__len__" (defScope s_Sizes_len) (d_Sizes_len.ad K) (defBody s_Sizes_len) b_Sizes_len := fun cd A outer s H E hr => by
  have nd := sc_Sizes_len.nd
  exact (dss_cons (ds_ret (de_len rfl h.f_len (da_cons (de_call ((c_runs_in h).x (hr.mono (j := 1) (by decide)) takesB) rfl h.g_runs_in h.kp_runs_in (da_cons (de_fld (i := 11) (cs := [23]) (de_v 0) h.a_grid (by decide +kernel)) da_nil)) da_nil)))
    dss_nil)
theorem c_Sizes_len (h : Fx K mg) : CD P w K mg base 2 (.ref (d_Sizes_len.ad K)) 1 [] g_Sizes_len := by
  obtain ⟨fd, F⟩ := h.fn_Sizes_len
  exact CD.pos true F sc_Sizes_len (body_Sizes_len h) (F.bindsN fun _ _ _ _ _ _ us hl => match us, hl with | [_], _ => rfl)
theorem c_Sizes_init_1 (h : Fx K mg) : CD P w K mg base 4 (.ref (d_Sizes_init.ad K)) 1 [] g_Sizes_init_1 := by
  obtain ⟨fd, F⟩ := h.fn_Sizes_init
  refine CD.star (ps := ["self", "grid"]) (pv := "boxes") true [("grid", V.non)] aG_Sizes_init_1 rG_Sizes_init_1 F sc_Sizes_init (body_Sizes_init h) (by simp [DefR.kws, d_Sizes_init]) (by intro q hq; simpa [DefR.kws, d_Sizes_init, He.Dv.v] using hq) ⟨?_, ?_⟩ ?_ ?_
  · intro F α ds vs zs l1 l2 r
    match vs, zs, l1, l2, r with
    | [x0], [], _, _, r =>
      obtain ⟨e0, t0, rfl, p0, r⟩ := repVs_inv r
      obtain rfl := repVs_nil r
      exact ⟨⟨_, _, rfl, p0, _, _, rfl, rfl, rfl⟩, rfl⟩
  · intro F α ds vs zs l1 l2 r
    match vs, zs, l1, l2, r with
    | [x0], [], _, _, r =>
      obtain ⟨e0, t0, rfl, p0, r⟩ := repVs_inv r
      obtain rfl := repVs_nil r
      exact rfl
  · intro vs mz zs us mv ws l1 l2 l3 r1 r2 r3
    match vs, mz, zs, l1, l2, l3, r1, r2, r3 with
    | [x0], [y0], [], _, _, _, r1, r2, r3 =>
      obtain ⟨ux0, sx0, rfl, ax0, r1⟩ := vals_inv r1
      obtain rfl := vals_nil r1
      obtain ⟨uy0, sy0, rfl, ay0, r2⟩ := vals_inv r2
      obtain rfl := vals_nil r2
      obtain rfl := vals_nil r3
      exact ⟨(.cons ax0 (.cons ay0 .nil)), .nil⟩
  · intro D doc pm an cdv ct us mv ws l1 l2 l3
    match us, mv, ws, l1, l2, l3 with
    | [x0], [y0], [], _, _, _ => exact ⟨_, _, _, _, _, _, rfl, rfl, rfl⟩
theorem c_Sizes_init_2 (h : Fx K mg) : CD P w K mg base 4 (.ref (d_Sizes_init.ad K)) 2 [] g_Sizes_init_2 := by
  obtain ⟨fd, F⟩ := h.fn_Sizes_init
  refine CD.star (ps := ["self", "grid"]) (pv := "boxes") true [("grid", V.non)] aG_Sizes_init_2 rG_Sizes_init_2 F sc_Sizes_init (body_Sizes_init h) (by simp [DefR.kws, d_Sizes_init]) (by intro q hq; simpa [DefR.kws, d_Sizes_init, He.Dv.v] using hq) ⟨?_, ?_⟩ ?_ ?_
  · intro F α ds vs zs l1 l2 r
    match vs, zs, l1, l2, r with
    | [x0, x1], [], _, _, r =>
      obtain ⟨e0, t0, rfl, p0, r⟩ := repVs_inv r
      obtain ⟨e1, t1, rfl, p1, r⟩ := repVs_inv r
      obtain rfl := repVs_nil r
      exact ⟨⟨_, _, rfl, p0, _, _, rfl, rfl, rfl⟩, rfl⟩
  · intro F α ds vs zs l1 l2 r
    match vs, zs, l1, l2, r with
    | [x0, x1], [], _, _, r =>
      obtain ⟨e0, t0, rfl, p0, r⟩ := repVs_inv r
      obtain ⟨e1, t1, rfl, p1, r⟩ := repVs_inv r
      obtain rfl := repVs_nil r
      exact ⟨_, _, rfl, p1, rfl⟩
  · intro vs mz zs us mv ws l1 l2 l3 r1 r2 r3
    match vs, mz, zs, l1, l2, l3, r1, r2, r3 with
    | [x0, x1], [y0], [], _, _, _, r1, r2, r3 =>
      obtain ⟨ux0, sx0, rfl, ax0, r1⟩ := vals_inv r1
      obtain ⟨ux1, sx1, rfl, ax1, r1⟩ := vals_inv r1
      obtain rfl := vals_nil r1
      obtain ⟨uy0, sy0, rfl, ay0, r2⟩ := vals_inv r2
      obtain rfl := vals_nil r2
      obtain rfl := vals_nil r3
      exact ⟨(.cons ax0 (.cons ay0 .nil)), (.cons ax1 .nil)⟩
  · intro D doc pm an cdv ct us mv ws l1 l2 l3
    match us, mv, ws, l1, l2, l3 with
    | [x0, x1], [y0], [], _, _, _ => exact ⟨_, _, _, _, _, _, rfl, rfl, rfl⟩
theorem c_Sizes_init_1_grid (h : Fx K mg) : CD P w K mg base 4 (.ref (d_Sizes_init.ad K)) 1 ["grid"] g_Sizes_init_1_grid := by
  obtain ⟨fd, F⟩ := h.fn_Sizes_init
  refine CD.star (ps := ["self", "grid"]) (pv := "boxes") true [] aG_Sizes_init_1_grid rG_Sizes_init_1_grid F sc_Sizes_init (body_Sizes_init h) (by simp [DefR.kws, d_Sizes_init]) (by intro q hq; simpa [DefR.kws, d_Sizes_init, He.Dv.v] using hq) ⟨?_, ?_⟩ ?_ ?_
  · intro F α ds vs zs l1 l2 r
    match vs, zs, l1, l2, r with
    | [x0], [z0], _, _, r =>
      obtain ⟨e0, t0, rfl, p0, r⟩ := repVs_inv r
      obtain ⟨e1, t1, rfl, p1, r⟩ := repVs_inv r
      obtain rfl := repVs_nil r
      exact ⟨⟨_, _, rfl, p0, _, _, rfl, p1, rfl⟩, rfl⟩
  · intro F α ds vs zs l1 l2 r
    match vs, zs, l1, l2, r with
    | [x0], [z0], _, _, r =>
      obtain ⟨e0, t0, rfl, p0, r⟩ := repVs_inv r
      obtain ⟨e1, t1, rfl, p1, r⟩ := repVs_inv r
      obtain rfl := repVs_nil r
      exact rfl
  · intro vs mz zs us mv ws l1 l2 l3 r1 r2 r3
    match vs, mz, zs, l1, l2, l3, r1, r2, r3 with
    | [x0], [], [z0], _, _, _, r1, r2, r3 =>
      obtain ⟨ux0, sx0, rfl, ax0, r1⟩ := vals_inv r1
      obtain rfl := vals_nil r1
      obtain rfl := vals_nil r2
      obtain ⟨uz0, sz0, rfl, az0, r3⟩ := vals_inv r3
      obtain rfl := vals_nil r3
      exact ⟨(.cons ax0 (.cons az0 .nil)), .nil⟩
  · intro D doc pm an cdv ct us mv ws l1 l2 l3
    match us, mv, ws, l1, l2, l3 with
    | [x0], [], [z0], _, _, _ => exact rfl
theorem body_band_at (h : Fx K mg) : BodyOk P w K mg base 0 N_band_at "band_at" (defScope s_band_at) (d_band_at.ad K) (defBody s_band_at) b_band_at := fun cd A outer s H E hr => by
  have nd := sc_band_at.nd
  exact (dss_cons (ds_ret (de_sub (de_len rfl h.f_len (da_cons (de_lc [("start", 2)] rfl nd (di_seq (de_v 0)) (blkOk_by (N := N_band_at) (sc := defScope s_band_at) (by decide +kernel)) (fun _ _ _ _ _ => (dp_n 2 nd)) (fun _ _ _ _ _ => (dts_one (dt_le (de_v 2) (de_v 1)))) (fun _ _ _ _ _ => (de_v 2))) da_nil)) de_int))
    dss_nil)
theorem c_band_at (h : Fx K mg) : CD P w K mg base 1 (.ref (d_band_at.ad K)) 2 [] g_band_at := by
  obtain ⟨fd, F⟩ := h.fn_band_at
  exact CD.pos true F sc_band_at (body_band_at h) (F.bindsN fun _ _ _ _ _ _ us hl => match us, hl with | [_, _], _ => rfl)
theorem body_truth_by (h : Fx K mg) : BodyOk P w K mg base 0 N_truth_by "truth_by" (defScope s_truth_by) (d_truth_by.ad K) (defBody s_truth_by) b_truth_by := fun cd A outer s H E hr => by
  have nd := sc_truth_by.nd
  exact (dss_cons (ds_if (dt_eq hr.r.units (de_v 0) (de_str (l := [101, 105, 116, 104, 101, 114]) (by decide +kernel))) (dss_cons (ds_ret (de_or (de_v 1) (de_one (de_v 2))))
    dss_nil) dss_nil)
    (dss_cons (ds_if (dt_eq hr.r.units (de_v 0) (de_str (l := [98, 111, 116, 104]) (by decide +kernel))) (dss_cons (ds_ret (de_and (de_v 1) (de_one (de_v 2))))
    dss_nil) dss_nil)
    (dss_cons (ds_ret (de_and (de_v 1) (de_one (de_not (de_v 2)))))
    dss_nil)))
theorem c_truth_by (h : Fx K mg) : CD P w K mg base 1 (.ref (d_truth_by.ad K)) 3 [] g_truth_by := by
  obtain ⟨fd, F⟩ := h.fn_truth_by
  exact CD.pos true F sc_truth_by (body_truth_by h) (F.bindsN fun _ _ _ _ _ _ us hl => match us, hl with | [_, _, _], _ => rfl)
theorem body_mixed_grid (h : Fx K mg) : BodyOk P w K mg base 1 N_mixed_grid "mixed_grid" (defScope s_mixed_grid) (d_mixed_grid.ad K) (defBody s_mixed_grid) b_mixed_grid := fun cd A outer s H E hr => by
  have nd := sc_mixed_grid.nd
  exact (dss_cons (ds_set 3 nd (de_ctup rfl h.f_tuple (da_cons (de_sortedSet rfl rfl h.f_sorted rfl h.f_set (de_add (de_ix (de_v 0) de_int) (de_ix (de_v 1) de_int))) da_nil)))
    (dss_cons (ds_set 4 nd (de_ctup rfl h.f_tuple (da_cons (de_sortedSet rfl rfl h.f_sorted rfl h.f_set (de_add (de_ix (de_v 0) de_int) (de_ix (de_v 1) de_int))) da_nil)))
    (dss_cons (ds_setLc 5 [("width", 10)] rfl nd (di_seq (de_v 4)) (blkOk_by (N := N_mixed_grid) (sc := defScope s_mixed_grid) (by decide +kernel)) (fun _ _ _ _ _ => (dp_n 10 nd)) (fun _ _ _ _ _ => dts_nil) (fun _ _ _ _ _ => (de_tup (da_cons (de_call ((c_band_at h).x (hr.mono (j := 1) (by decide)) takes0) rfl h.g_band_at h.kp_band_at (da_cons (de_ix (de_v 0) de_int) (da_cons (de_v 10) da_nil))) (da_cons (de_call ((c_band_at h).x (hr.mono (j := 1) (by decide)) takes0) rfl h.g_band_at h.kp_band_at (da_cons (de_ix (de_v 1) de_int) (da_cons (de_v 10) da_nil))) da_nil)))))
    (dss_cons (ds_set 6 nd (de_lstC da_nil))
    (dss_cons (ds_for passB rfl (di_seq (de_v 3)) (dg_n 7 nd) (dss_cons (ds_set 8 nd (de_ix (de_ix (de_v 0) de_int) (de_call ((c_band_at h).x (hr.mono (j := 1) (by decide)) takesB) rfl h.g_band_at h.kp_band_at (da_cons (de_ix (de_v 0) de_int) (da_cons (de_v 7) da_nil)))))
    (dss_cons (ds_set 9 nd (de_ix (de_ix (de_v 1) de_int) (de_call ((c_band_at h).x (hr.mono (j := 1) (by decide)) takesB) rfl h.g_band_at h.kp_band_at (da_cons (de_ix (de_v 1) de_int) (da_cons (de_v 7) da_nil)))))
    (dss_cons (ds_do (de_append (de_v 6) (de_ctup rfl h.f_tuple (da_cons (de_lc [("here", 11), ("there", 12)] rfl nd (di_seq (de_v 5)) (blkOk_by (N := N_mixed_grid) (sc := defScope s_mixed_grid) (by decide +kernel)) (fun _ _ _ _ _ => (dp_tup rfl (dps_cons (dp_n 11 nd) (dps_cons (dp_n 12 nd) dps_nil)))) (fun _ _ _ _ _ => dts_nil) (fun _ _ _ _ _ => (de_call ((c_truth_by h).x (hr.mono (j := 1) (by decide)) takes0) rfl h.g_truth_by h.kp_truth_by (da_cons (de_v 2) (da_cons (de_ix (de_v 8) (de_v 11)) (da_cons (de_ix (de_v 9) (de_v 12)) da_nil)))))) da_nil))))
    dss_nil))))
    (dss_cons (ds_ret (de_call ((c_joined_grid h).x (hr.mono (j := 1) (by decide)) takesB) rfl h.g_joined_grid h.kp_joined_grid (da_cons (de_tup (da_cons (de_v 3) (da_cons (de_v 4) (da_cons (de_ctup rfl h.f_tuple (da_cons (de_v 6) da_nil)) da_nil)))) da_nil)))
    dss_nil))))))
theorem c_mixed_grid (h : Fx K mg) : CD P w K mg base 2 (.ref (d_mixed_grid.ad K)) 3 [] g_mixed_grid := by
  obtain ⟨fd, F⟩ := h.fn_mixed_grid
  exact CD.pos true F sc_mixed_grid (body_mixed_grid h) (F.bindsN fun _ _ _ _ _ _ us hl => match us, hl with | [_, _, _], _ => rfl)
theorem body_Sizes_and (h : Fx K mg) : BodyOk P w K mg base 5 N_Sizes_and "Sizes.__and__" (defScope s_Sizes_and) (d_Sizes_and.ad K) (defBody s_Sizes_and) b_Sizes_and := fun cd A outer s H E hr => by
  have nd := sc_Sizes_and.nd
  exact (dss_cons (ds_ret (de_callk0 (ks := ["grid"]) (CD.mk true (c := 23) h.m_Sizes (c_Sizes_init_1_grid h) (hr.mono (j := 5) (by decide)) takesB) rfl h.g_Sizes h.m_Sizes.kp (dk_cons (de_call ((c_mixed_grid h).x (hr.mono (j := 2) (by decide)) takesB) rfl h.g_mixed_grid h.kp_mixed_grid (da_cons (de_fld (i := 11) (cs := [23]) (de_v 0) h.a_grid (by decide +kernel)) (da_cons (de_fld (i := 11) (cs := [23]) (de_v 1) h.a_grid (by decide +kernel)) (da_cons (de_str (l := [98, 111, 116, 104]) (by decide +kernel)) da_nil)))) dk_nil)))
    dss_nil)
theorem c_Sizes_and (h : Fx K mg) : CD P w K mg base 6 (.ref (d_Sizes_and.ad K)) 2 [] g_Sizes_and := by
  obtain ⟨fd, F⟩ := h.fn_Sizes_and
  exact CD.pos true F sc_Sizes_and (body_Sizes_and h) (F.bindsN fun _ _ _ _ _ _ us hl => match us, hl with | [_, _], _ => rfl)
theorem body_Sizes_or (h : Fx K mg) : BodyOk P w K mg base 5 N_Sizes_or "Sizes.__or__" (defScope s_Sizes_or) (d_Sizes_or.ad K) (defBody s_Sizes_or) b_Sizes_or := fun cd A outer s H E hr => by
  have nd := sc_Sizes_or.nd
  exact (dss_cons (ds_ret (de_callk0 (ks := ["grid"]) (CD.mk true (c := 23) h.m_Sizes (c_Sizes_init_1_grid h) (hr.mono (j := 5) (by decide)) takesB) rfl h.g_Sizes h.m_Sizes.kp (dk_cons (de_call ((c_mixed_grid h).x (hr.mono (j := 2) (by decide)) takesB) rfl h.g_mixed_grid h.kp_mixed_grid (da_cons (de_fld (i := 11) (cs := [23]) (de_v 0) h.a_grid (by decide +kernel)) (da_cons (de_fld (i := 11) (cs := [23]) (de_v 1) h.a_grid (by decide +kernel)) (da_cons (de_str (l := [101, 105, 116, 104, 101, 114]) (by decide +kernel)) da_nil)))) dk_nil)))
    dss_nil)
theorem c_Sizes_or (h : Fx K mg) : CD P w K mg base 6 (.ref (d_Sizes_or.ad K)) 2 [] g_Sizes_or := by
  obtain ⟨fd, F⟩ := h.fn_Sizes_or
  exact CD.pos true F sc_Sizes_or (body_Sizes_or h) (F.bindsN fun _ _ _ _ _ _ us hl => match us, hl with | [_, _], _ => rfl)
theorem body_Sizes_repr (h : Fx K mg) : BodyOk P w K mg base 3 N_Sizes_repr "Sizes.__repr__" (defScope s_Sizes_repr) (d_Sizes_repr.ad K) (defBody s_Sizes_repr) b_Sizes_repr := fun cd A outer s H E hr => by
  have nd := sc_Sizes_repr.nd
  exact (dss_cons (ds_ret (de_joined (dj_cons (de_str (l := [83, 105, 122, 101, 115, 40]) (by decide +kernel)) (dj_cons (de_fmt (de_lenOwn (c := 23) rfl h.f_len h.du_Sizes_len.1 h.du_Sizes_len.2 (c_Sizes_len h) (hr.mono (j := 3) (by decide)) (de_v 0))) (dj_cons (de_str (l := [32, 98, 111, 120, 101, 115, 41]) (by decide +kernel)) dj_nil)))))
    dss_nil)
theorem c_Sizes_repr (h : Fx K mg) : CD P w K mg base 4 (.ref (d_Sizes_repr.ad K)) 1 [] g_Sizes_repr := by
  obtain ⟨fd, F⟩ := h.fn_Sizes_repr
  exact CD.pos true F sc_Sizes_repr (body_Sizes_repr h) (F.bindsN fun _ _ _ _ _ _ us hl => match us, hl with | [_], _ => rfl)
theorem body_Sizes_eq (h : Fx K mg) : BodyOk P w K mg base 0 N_Sizes_eq "Sizes.__eq__" (defScope s_Sizes_eq) (d_Sizes_eq.ad K) (defBody s_Sizes_eq) b_Sizes_eq := fun cd A outer s H E hr => by
  have nd := sc_Sizes_eq.nd
  exact (dss_cons (ds_ret (de_and (de_isiOwn rfl h.f_isinstance rfl h.g_Sizes h.is_Sizes (de_v 1)) (de_one (de_eq hr.r.units (de_fld (i := 11) (cs := [23]) (de_v 0) h.a_grid (by decide +kernel)) (de_fld (i := 11) (cs := [23]) (de_v 1) h.a_grid (by decide +kernel))))))
    dss_nil)
theorem c_Sizes_eq (h : Fx K mg) : CD P w K mg base 1 (.ref (d_Sizes_eq.ad K)) 2 [] g_Sizes_eq := by
  obtain ⟨fd, F⟩ := h.fn_Sizes_eq
  exact CD.pos true F sc_Sizes_eq (body_Sizes_eq h) (F.bindsN fun _ _ _ _ _ _ us hl => match us, hl with | [_, _], _ => rfl)
theorem body__law_told_right (h : Fx K mg) : BodyOk P w K mg base 6 N__law_told_right "_law_told_right" (defScope s__law_told_right) (d__law_told_right.ad K) (defBody s__law_told_right) b__law_told_right := fun cd A outer s H E hr => by
  have nd := sc__law_told_right.nd
  exact (dss_cons (ds_set 1 nd (de_call ((c__law_due_boxes h).x (hr.mono (j := 1) (by decide)) takesB) rfl h.g__law_due_boxes h.kp__law_due_boxes (da_cons (de_prop (c := 23) (de_v 0) h.c_Sizes h.p_Sizes_heights (c_Sizes_heights h) (hr.mono (j := 2) (by decide))) (da_cons (de_prop (c := 23) (de_v 0) h.c_Sizes h.p_Sizes_widths (c_Sizes_widths h) (hr.mono (j := 2) (by decide))) (da_cons (de_prop (c := 23) (de_v 0) h.c_Sizes h.p_Sizes_table (c_Sizes_table h) (hr.mono (j := 2) (by decide))) da_nil)))))
    (dss_cons (ds_set 2 nd (de_lst (da_cons (let ⟨_, F, B⟩ := cg_Sizes_boxes h; de_lcGm (c := 23) (de_v 0) h.c_Sizes h.me_Sizes_boxes (noFld_of (by decide +kernel) (by decide +kernel)) rfl F B (hr.mono (j := 4) (by decide)) rfl rfl (by decide)) (da_cons (let ⟨_, F, B⟩ := cg_Sizes_boxes h; de_lcGm (c := 23) (de_v 0) h.c_Sizes h.me_Sizes_boxes (noFld_of (by decide +kernel) (by decide +kernel)) rfl F B (hr.mono (j := 4) (by decide)) rfl rfl (by decide)) da_nil))))
    (dss_cons (ds_if (dt_w (dw_or (dt_ne hr.r.units (de_repr hr rfl h.f_repr (de_v 2)) (de_repr hr rfl h.f_repr (de_lst (da_cons (de_v 1) (da_cons (de_v 1) da_nil))))) (dw_or (dt_ne hr.r.units (de_lenOwn (c := 23) rfl h.f_len h.du_Sizes_len.1 h.du_Sizes_len.2 (c_Sizes_len h) (hr.mono (j := 3) (by decide)) (de_v 0)) (de_len rfl h.f_len (da_cons (de_v 1) da_nil))) (dw_or1 (dt_ne hr.r.units (de_boolL (c := 23) rfl h.f_bool h.lt_Sizes h.du_Sizes_len.1 h.du_Sizes_len.2 (c_Sizes_len h) (hr.mono (j := 5) (by decide)) (de_v 0)) (de_ne hr.r.units (de_v 1) (de_lst da_nil))))))) (dss_cons (ds_ret de_bl)
    dss_nil) dss_nil)
    (dss_cons (ds_set 3 nd (de_call0 (CD.mk true (c := 23) h.m_Sizes (c_Sizes_init_1 h) (hr.mono (j := 5) (by decide)) takesB) rfl h.g_Sizes h.m_Sizes.kp))
    (dss_cons (ds_for passB rfl (di_seq (de_v 1)) (dg_n 4 nd) (dss_cons (ds_if (dt_ne hr.r.units (de_lenOwn (c := 23) rfl h.f_len h.du_Sizes_len.1 h.du_Sizes_len.2 (c_Sizes_len h) (hr.mono (j := 3) (by decide)) (de_binOwn (c := 23) h.sf_Sizes (by rw [du_and]; exact h.du_Sizes_and.1) h.du_Sizes_and.2 (c_Sizes_and h) (hr.mono (j := 6) (by decide)) (de_call (CD.mk true (c := 23) h.m_Sizes (c_Sizes_init_2 h) (hr.mono (j := 5) (by decide)) takesB) rfl h.g_Sizes h.m_Sizes.kp (da_cons (de_v 4) da_nil)) (de_v 3))) de_int) (dss_cons (ds_ret de_bl)
    dss_nil) dss_nil)
    (dss_cons (ds_set 3 nd (de_binOwn (c := 23) h.sf_Sizes (by rw [du_or]; exact h.du_Sizes_or.1) h.du_Sizes_or.2 (c_Sizes_or h) (hr.mono (j := 6) (by decide)) (de_v 3) (de_call (CD.mk true (c := 23) h.m_Sizes (c_Sizes_init_2 h) (hr.mono (j := 5) (by decide)) takesB) rfl h.g_Sizes h.m_Sizes.kp (da_cons (de_v 4) da_nil))))
    dss_nil)))
    (dss_cons (ds_ret (de_and (de_eq hr.r.units (de_reprOwn (c := 23) rfl h.f_repr h.du_Sizes_repr.1 h.du_Sizes_repr.2 (c_Sizes_repr h) (hr.mono (j := 5) (by decide)) (de_v 0)) (de_add (de_add (de_str (l := [83, 105, 122, 101, 115, 40]) (by decide +kernel)) (de_strI rfl h.f_str (de_len rfl h.f_len (da_cons (de_v 1) da_nil)))) (de_str (l := [32, 98, 111, 120, 101, 115, 41]) (by decide +kernel)))) (de_one (de_eqOwn (c := 23) hr.r.units h.nf_Sizes h.du_Sizes_eq.1 h.du_Sizes_eq.2 (c_Sizes_eq h) (hr.mono (j := 1) (by decide)) (de_v 3) (de_v 0)))))
    dss_nil))))))
theorem c__law_told_right (h : Fx K mg) : CD P w K mg base 7 (.ref (d__law_told_right.ad K)) 1 [] g__law_told_right := by
  obtain ⟨fd, F⟩ := h.fn__law_told_right
  exact CD.pos true F sc__law_told_right (body__law_told_right h) (F.bindsN fun _ _ _ _ _ _ us hl => match us, hl with | [_], _ => rfl)
theorem body_Sizes_every (h : Fx K mg) : BodyOk P w K mg base 5 N_Sizes_every "Sizes.every" (defScope s_Sizes_every) (d_Sizes_every.ad K) (defBody s_Sizes_every) b_Sizes_every := fun cd A outer s H E hr => by
  have nd := sc_Sizes_every.nd
  exact (dss_cons (ds_ret (de_callV 0 23 (CD.mk true (c := 23) h.m_Sizes (c_Sizes_init_2 h) (hr.mono (j := 5) (by decide)) takesB) h.m_Sizes.kp (da_cons (de_tup (da_cons de_int (da_cons de_non (da_cons de_int (da_cons de_non da_nil))))) da_nil)))
    dss_nil)
theorem c_Sizes_every (h : Fx K mg) : CD P w K mg base 6 (.ref (d_Sizes_every.ad K)) 1 [] g_Sizes_every := by
  obtain ⟨fd, F⟩ := h.fn_Sizes_every
  exact CD.pos true F sc_Sizes_every (body_Sizes_every h) (F.bindsN fun _ _ _ _ _ _ us hl => match us, hl with | [_], _ => rfl)
theorem body_Sizes_invert (h : Fx K mg) : BodyOk P w K mg base 5 N_Sizes_invert "Sizes.__invert__" (defScope s_Sizes_invert) (d_Sizes_invert.ad K) (defBody s_Sizes_invert) b_Sizes_invert := fun cd A outer s H E hr => by
  have nd := sc_Sizes_invert.nd
  exact (dss_cons (ds_ret (de_callk0 (ks := ["grid"]) (CD.mk true (c := 23) h.m_Sizes (c_Sizes_init_1_grid h) (hr.mono (j := 5) (by decide)) takesB) rfl h.g_Sizes h.m_Sizes.kp (dk_cons (de_call ((c_mixed_grid h).x (hr.mono (j := 2) (by decide)) takesB) rfl h.g_mixed_grid h.kp_mixed_grid (da_cons (de_gk (d := kc_EVERY_GRID) rfl h.g_EVERY_GRID h.kc_EVERY_GRID) (da_cons (de_fld (i := 11) (cs := [23]) (de_v 0) h.a_grid (by decide +kernel)) (da_cons (de_str (l := [102, 105, 114, 115, 116]) (by decide +kernel)) da_nil)))) dk_nil)))
    dss_nil)
theorem c_Sizes_invert (h : Fx K mg) : CD P w K mg base 6 (.ref (d_Sizes_invert.ad K)) 1 [] g_Sizes_invert := by
  obtain ⟨fd, F⟩ := h.fn_Sizes_invert
  exact CD.pos true F sc_Sizes_invert (body_Sizes_invert h) (F.bindsN fun _ _ _ _ _ _ us hl => match us, hl with | [_], _ => rfl)
theorem c_Sizes_init_4 (h : Fx K mg) : CD P w K mg base 4 (.ref (d_Sizes_init.ad K)) 4 [] g_Sizes_init_4 := by
  obtain ⟨fd, F⟩ := h.fn_Sizes_init
  refine CD.star (ps := ["self", "grid"]) (pv := "boxes") true [("grid", V.non)] aG_Sizes_init_4 rG_Sizes_init_4 F sc_Sizes_init (body_Sizes_init h) (by simp [DefR.kws, d_Sizes_init]) (by intro q hq; simpa [DefR.kws, d_Sizes_init, He.Dv.v] using hq) ⟨?_, ?_⟩ ?_ ?_
  · intro F α ds vs zs l1 l2 r
    match vs, zs, l1, l2, r with
    | [x0, x1, x2, x3], [], _, _, r =>
      obtain ⟨e0, t0, rfl, p0, r⟩ := repVs_inv r
      obtain ⟨e1, t1, rfl, p1, r⟩ := repVs_inv r
      obtain ⟨e2, t2, rfl, p2, r⟩ := repVs_inv r
      obtain ⟨e3, t3, rfl, p3, r⟩ := repVs_inv r
      obtain rfl := repVs_nil r
      exact ⟨⟨_, _, rfl, p0, _, _, rfl, rfl, rfl⟩, rfl⟩
  · intro F α ds vs zs l1 l2 r
    match vs, zs, l1, l2, r with
    | [x0, x1, x2, x3], [], _, _, r =>
      obtain ⟨e0, t0, rfl, p0, r⟩ := repVs_inv r
      obtain ⟨e1, t1, rfl, p1, r⟩ := repVs_inv r
      obtain ⟨e2, t2, rfl, p2, r⟩ := repVs_inv r
      obtain ⟨e3, t3, rfl, p3, r⟩ := repVs_inv r
      obtain rfl := repVs_nil r
      exact ⟨_, _, rfl, p1, _, _, rfl, p2, _, _, rfl, p3, rfl⟩
  · intro vs mz zs us mv ws l1 l2 l3 r1 r2 r3
    match vs, mz, zs, l1, l2, l3, r1, r2, r3 with
    | [x0, x1, x2, x3], [y0], [], _, _, _, r1, r2, r3 =>
      obtain ⟨ux0, sx0, rfl, ax0, r1⟩ := vals_inv r1
      obtain ⟨ux1, sx1, rfl, ax1, r1⟩ := vals_inv r1
      obtain ⟨ux2, sx2, rfl, ax2, r1⟩ := vals_inv r1
      obtain ⟨ux3, sx3, rfl, ax3, r1⟩ := vals_inv r1
      obtain rfl := vals_nil r1
      obtain ⟨uy0, sy0, rfl, ay0, r2⟩ := vals_inv r2
      obtain rfl := vals_nil r2
      obtain rfl := vals_nil r3
      exact ⟨(.cons ax0 (.cons ay0 .nil)), (.cons ax1 (.cons ax2 (.cons ax3 .nil)))⟩
  · intro D doc pm an cdv ct us mv ws l1 l2 l3
    match us, mv, ws, l1, l2, l3 with
    | [x0, x1, x2, x3], [y0], [], _, _, _ => exact ⟨_, _, _, _, _, _, rfl, rfl, rfl⟩
theorem c_Sizes_init_5 (h : Fx K mg) : CD P w K mg base 4 (.ref (d_Sizes_init.ad K)) 5 [] g_Sizes_init_5 := by
  obtain ⟨fd, F⟩ := h.fn_Sizes_init
  refine CD.star (ps := ["self", "grid"]) (pv := "boxes") true [("grid", V.non)] aG_Sizes_init_5 rG_Sizes_init_5 F sc_Sizes_init (body_Sizes_init h) (by simp [DefR.kws, d_Sizes_init]) (by intro q hq; simpa [DefR.kws, d_Sizes_init, He.Dv.v] using hq) ⟨?_, ?_⟩ ?_ ?_
  · intro F α ds vs zs l1 l2 r
    match vs, zs, l1, l2, r with
    | [x0, x1, x2, x3, x4], [], _, _, r =>
      obtain ⟨e0, t0, rfl, p0, r⟩ := repVs_inv r
      obtain ⟨e1, t1, rfl, p1, r⟩ := repVs_inv r
      obtain ⟨e2, t2, rfl, p2, r⟩ := repVs_inv r
      obtain ⟨e3, t3, rfl, p3, r⟩ := repVs_inv r
      obtain ⟨e4, t4, rfl, p4, r⟩ := repVs_inv r
      obtain rfl := repVs_nil r
      exact ⟨⟨_, _, rfl, p0, _, _, rfl, rfl, rfl⟩, rfl⟩
  · intro F α ds vs zs l1 l2 r
    match vs, zs, l1, l2, r with
    | [x0, x1, x2, x3, x4], [], _, _, r =>
      obtain ⟨e0, t0, rfl, p0, r⟩ := repVs_inv r
      obtain ⟨e1, t1, rfl, p1, r⟩ := repVs_inv r
      obtain ⟨e2, t2, rfl, p2, r⟩ := repVs_inv r
      obtain ⟨e3, t3, rfl, p3, r⟩ := repVs_inv r
      obtain ⟨e4, t4, rfl, p4, r⟩ := repVs_inv r
      obtain rfl := repVs_nil r
      exact ⟨_, _, rfl, p1, _, _, rfl, p2, _, _, rfl, p3, _, _, rfl, p4, rfl⟩
  · intro vs mz zs us mv ws l1 l2 l3 r1 r2 r3
    match vs, mz, zs, l1, l2, l3, r1, r2, r3 with
    | [x0, x1, x2, x3, x4], [y0], [], _, _, _, r1, r2, r3 =>
      obtain ⟨ux0, sx0, rfl, ax0, r1⟩ := vals_inv r1
      obtain ⟨ux1, sx1, rfl, ax1, r1⟩ := vals_inv r1
      obtain ⟨ux2, sx2, rfl, ax2, r1⟩ := vals_inv r1
      obtain ⟨ux3, sx3, rfl, ax3, r1⟩ := vals_inv r1
      obtain ⟨ux4, sx4, rfl, ax4, r1⟩ := vals_inv r1
      obtain rfl := vals_nil r1
      obtain ⟨uy0, sy0, rfl, ay0, r2⟩ := vals_inv r2
      obtain rfl := vals_nil r2
      obtain rfl := vals_nil r3
      exact ⟨(.cons ax0 (.cons ay0 .nil)), (.cons ax1 (.cons ax2 (.cons ax3 (.cons ax4 .nil))))⟩
  · intro D doc pm an cdv ct us mv ws l1 l2 l3
    match us, mv, ws, l1, l2, l3 with
    | [x0, x1, x2, x3, x4], [y0], [], _, _, _ => exact ⟨_, _, _, _, _, _, rfl, rfl, rfl⟩
theorem body__law_sizes (h : Fx K mg) : BodyOk P w K mg base 5 N__law_sizes "_law_sizes" (defScope s__law_sizes) (d__law_sizes.ad K) (defBody s__law_sizes) b__law_sizes := fun cd A outer s H E hr => by
  have nd := sc__law_sizes.nd
  exact (dss_cons (ds_if (dt_lt (de_len rfl h.f_len (da_cons (de_v 0) da_nil)) de_int) (dss_cons (ds_ret (de_if (dt_eq hr.r.units (de_v 0) (de_lst da_nil)) (de_call0 (CD.mk true (c := 23) h.m_Sizes (c_Sizes_init_1 h) (hr.mono (j := 5) (by decide)) takesB) rfl h.g_Sizes h.m_Sizes.kp) (de_call (CD.mk true (c := 23) h.m_Sizes (c_Sizes_init_2 h) (hr.mono (j := 5) (by decide)) takesB) rfl h.g_Sizes h.m_Sizes.kp (da_cons (de_ix (de_v 0) de_int) da_nil))))
    dss_nil) dss_nil)
    (dss_cons (ds_if (dt_eq hr.r.units (de_len rfl h.f_len (da_cons (de_v 0) da_nil)) de_int) (dss_cons (ds_ret (de_call (CD.mk true (c := 23) h.m_Sizes (c_Sizes_init_3 h) (hr.mono (j := 5) (by decide)) takesB) rfl h.g_Sizes h.m_Sizes.kp (da_cons (de_ix (de_v 0) de_int) (da_cons (de_ix (de_v 0) de_int) da_nil))))
    dss_nil) dss_nil)
    (dss_cons (ds_ret (de_if (dt_eq hr.r.units (de_len rfl h.f_len (da_cons (de_v 0) da_nil)) de_int) (de_call (CD.mk true (c := 23) h.m_Sizes (c_Sizes_init_4 h) (hr.mono (j := 5) (by decide)) takesB) rfl h.g_Sizes h.m_Sizes.kp (da_cons (de_ix (de_v 0) de_int) (da_cons (de_ix (de_v 0) de_int) (da_cons (de_ix (de_v 0) de_int) da_nil)))) (de_call (CD.mk true (c := 23) h.m_Sizes (c_Sizes_init_5 h) (hr.mono (j := 5) (by decide)) takesB) rfl h.g_Sizes h.m_Sizes.kp (da_cons (de_ix (de_v 0) de_int) (da_cons (de_ix (de_v 0) de_int) (da_cons (de_ix (de_v 0) de_int) (da_cons (de_ix (de_v 0) de_int) da_nil)))))))
    dss_nil)))
theorem c__law_sizes (h : Fx K mg) : CD P w K mg base 6 (.ref (d__law_sizes.ad K)) 1 [] g__law_sizes := by
  obtain ⟨fd, F⟩ := h.fn__law_sizes
  exact CD.pos true F sc__law_sizes (body__law_sizes h) (F.bindsN fun _ _ _ _ _ _ us hl => match us, hl with | [_], _ => rfl)
theorem body__law_draw (h : Fx K mg) : BodyOk P w K mg base 0 N__law_draw "_law_draw" (defScope s__law_draw) (d__law_draw.ad K) (defBody s__law_draw) b__law_draw := fun cd A outer s H E hr => by
  have nd := sc__law_draw.nd
  exact (dss_cons (ds_asg (de_add (de_ix (de_v 0) de_int) de_int) (dg_ix (de_v 0) de_int))
    (dss_cons (ds_set 2 nd (de_cint rfl h.f_int (da_cons (de_ix (de_v 0) de_int) da_nil)))
    (dss_cons (ds_asg (de_mod (de_cint rfl h.f_int (da_cons (de_add (de_add (de_mul (de_v 2) (de_add (de_mod (de_v 2) de_int) de_int)) (de_mul de_int (de_ix (de_v 0) de_int))) de_int) da_nil)) de_int) (dg_ix (de_v 0) de_int))
    (dss_cons (ds_if (dt_gt (de_ix (de_v 0) de_int) de_int) (dss_cons (ds_asg (de_divmod rfl h.f_divmod (da_cons (de_ix (de_v 0) de_int) (da_cons (de_v 1) da_nil))) (dg_tup rfl (dgs_cons (dg_ix (de_v 0) de_int) (dgs_cons (dg_n 3 nd) dgs_nil))))
    (dss_cons (ds_ret (de_v 3))
    dss_nil)) dss_nil)
    (dss_cons (ds_ret (de_mod (de_cint rfl h.f_int (da_cons (de_fdiv (de_ix (de_v 0) de_int) de_int) da_nil)) (de_v 1)))
    dss_nil)))))
theorem c__law_draw (h : Fx K mg) : CD P w K mg base 1 (.ref (d__law_draw.ad K)) 2 [] g__law_draw := by
  obtain ⟨fd, F⟩ := h.fn__law_draw
  exact CD.pos true F sc__law_draw (body__law_draw h) (F.bindsN fun _ _ _ _ _ _ us hl => match us, hl with | [_, _], _ => rfl)
theorem body__law_low (h : Fx K mg) : BodyOk P w K mg base 1 N__law_low "_law_low" (defScope s__law_low) (d__law_low.ad K) (defBody s__law_low) b__law_low := fun cd A outer s H E hr => by
  have nd := sc__law_low.nd
  exact (dss_cons (ds_par2 1 2 rfl nd (da_cons (de_add de_int (de_call ((c__law_draw h).x (hr.mono (j := 1) (by decide)) takesB) rfl h.g__law_draw h.kp__law_draw (da_cons (de_v 0) (da_cons de_int da_nil)))) (da_cons (de_sub (de_sub (de_pow de_int de_int) de_int) (de_call ((c__law_draw h).x (hr.mono (j := 1) (by decide)) takesB) rfl h.g__law_draw h.kp__law_draw (da_cons (de_v 0) (da_cons de_int da_nil)))) da_nil)))
    (dss_cons (ds_ret (de_ix (de_lst (da_cons de_int (da_cons de_int (da_cons de_int (da_cons de_int (da_cons (de_v 1) (da_cons (de_v 1) (da_cons (de_v 2) da_nil)))))))) (de_call ((c__law_draw h).x (hr.mono (j := 1) (by decide)) takesB) rfl h.g__law_draw h.kp__law_draw (da_cons (de_v 0) (da_cons de_int da_nil)))))
    dss_nil))
theorem c__law_low (h : Fx K mg) : CD P w K mg base 2 (.ref (d__law_low.ad K)) 1 [] g__law_low := by
  obtain ⟨fd, F⟩ := h.fn__law_low
  exact CD.pos true F sc__law_low (body__law_low h) (F.bindsN fun _ _ _ _ _ _ us hl => match us, hl with | [_], _ => rfl)
theorem body__law_ends (h : Fx K mg) : BodyOk P w K mg base 2 N__law_ends "_law_ends" (defScope s__law_ends) (d__law_ends.ad K) (defBody s__law_ends) b__law_ends := fun cd A outer s H E hr => by
  have nd := sc__law_ends.nd
  exact (dss_cons (ds_set 1 nd (de_call ((c__law_low h).x (hr.mono (j := 2) (by decide)) takesB) rfl h.g__law_low h.kp__law_low (da_cons (de_v 0) da_nil)))
    (dss_cons (ds_set 2 nd (de_min rfl rfl h.f_min (da_cons (de_add (de_v 1) (de_ix (de_lst (da_cons de_int (da_cons de_int (da_cons de_int (da_cons de_int (da_cons (de_call ((c__law_draw h).x (hr.mono (j := 1) (by decide)) takesB) rfl h.g__law_draw h.kp__law_draw (da_cons (de_v 0) (da_cons de_int da_nil))) (da_cons (de_pow de_int de_int) da_nil))))))) (de_call ((c__law_draw h).x (hr.mono (j := 1) (by decide)) takesB) rfl h.g__law_draw h.kp__law_draw (da_cons (de_v 0) (da_cons de_int da_nil))))) (da_cons (de_sub (de_pow de_int de_int) de_int) da_nil))))
    (dss_cons (ds_ret (de_tup (da_cons (de_v 1) (da_cons (de_ix (de_lst (da_cons (de_v 2) (da_cons (de_v 2) (da_cons de_non da_nil)))) (de_call ((c__law_draw h).x (hr.mono (j := 1) (by decide)) takesB) rfl h.g__law_draw h.kp__law_draw (da_cons (de_v 0) (da_cons de_int da_nil)))) da_nil))))
    dss_nil)))
theorem c__law_ends (h : Fx K mg) : CD P w K mg base 3 (.ref (d__law_ends.ad K)) 1 [] g__law_ends := by
  obtain ⟨fd, F⟩ := h.fn__law_ends
  exact CD.pos true F sc__law_ends (body__law_ends h) (F.bindsN fun _ _ _ _ _ _ us hl => match us, hl with | [_], _ => rfl)
theorem body__law_box (h : Fx K mg) : BodyOk P w K mg base 3 N__law_box "_law_box" (defScope s__law_box) (d__law_box.ad K) (defBody s__law_box) b__law_box := fun cd A outer s H E hr => by
  have nd := sc__law_box.nd
  exact (dss_cons (ds_ret (de_add (de_call ((c__law_ends h).x (hr.mono (j := 3) (by decide)) takesB) rfl h.g__law_ends h.kp__law_ends (da_cons (de_v 0) da_nil)) (de_call ((c__law_ends h).x (hr.mono (j := 3) (by decide)) takesB) rfl h.g__law_ends h.kp__law_ends (da_cons (de_v 0) da_nil))))
    dss_nil)
theorem c__law_box (h : Fx K mg) : CD P w K mg base 4 (.ref (d__law_box.ad K)) 1 [] g__law_box := by
  obtain ⟨fd, F⟩ := h.fn__law_box
  exact CD.pos true F sc__law_box (body__law_box h) (F.bindsN fun _ _ _ _ _ _ us hl => match us, hl with | [_], _ => rfl)
theorem body__law_boxes (h : Fx K mg) : BodyOk P w K mg base 4 N__law_boxes "_law_boxes" (defScope s__law_boxes) (d__law_boxes.ad K) (defBody s__law_boxes) b__law_boxes := fun cd A outer s H E hr => by
  have nd := sc__law_boxes.nd
  exact (dss_cons (ds_ret (de_lc [("_law_turn", 2)] rfl nd (di_range1 rfl h.f_range (de_call ((c__law_draw h).x (hr.mono (j := 1) (by decide)) takesB) rfl h.g__law_draw h.kp__law_draw (da_cons (de_v 0) (da_cons (de_add (de_v 1) de_int) da_nil)))) (blkOk_by (N := N__law_boxes) (sc := defScope s__law_boxes) (by decide +kernel)) (fun _ _ _ _ _ => (dp_n 2 nd)) (fun _ _ _ _ _ => dts_nil) (fun _ _ _ _ _ => (de_call ((c__law_box h).x (hr.mono (j := 4) (by decide)) takes0) rfl h.g__law_box h.kp__law_box (da_cons (de_v 0) da_nil)))))
    dss_nil)
theorem c__law_boxes (h : Fx K mg) : CD P w K mg base 5 (.ref (d__law_boxes.ad K)) 2 [] g__law_boxes := by
  obtain ⟨fd, F⟩ := h.fn__law_boxes
  exact CD.pos true F sc__law_boxes (body__law_boxes h) (F.bindsN fun _ _ _ _ _ _ us hl => match us, hl with | [_, _], _ => rfl)
theorem body__law_right (h : Fx K mg) : BodyOk P w K mg base 7 N__law_right "_law_right" (defScope s__law_right) (d__law_right.ad K) (defBody s__law_right) b__law_right := fun cd A outer s H E hr => by
  have nd := sc__law_right.nd
  exact (dss_cons (ds_for passB rfl (di_range1 rfl h.f_range de_int) (dg_n 1 nd) (dss_cons (ds_set 2 nd (de_call ((c__law_sizes h).x (hr.mono (j := 6) (by decide)) takesB) rfl h.g__law_sizes h.kp__law_sizes (da_cons (de_call ((c__law_boxes h).x (hr.mono (j := 5) (by decide)) takesB) rfl h.g__law_boxes h.kp__law_boxes (da_cons (de_v 0) (da_cons de_int da_nil))) da_nil)))
    (dss_cons (ds_if (dt_w (dw_or (dt_not (dt_val (de_call ((c__law_told_right h).x (hr.mono (j := 7) (by decide)) takesB) rfl h.g__law_told_right h.kp__law_told_right (da_cons (de_v 2) da_nil)))) (dw_or1 (dt_not (dt_val (de_call ((c__law_told_right h).x (hr.mono (j := 7) (by decide)) takesB) rfl h.g__law_told_right h.kp__law_told_right (da_cons (de_inv (c := 23) h.du_Sizes_invert.1 h.du_Sizes_invert.2 (c_Sizes_invert h) (hr.mono (j := 6) (by decide)) (de_v 2)) da_nil))))))) (dss_cons (ds_ret de_bl)
    dss_nil) dss_nil)
    dss_nil)))
    (dss_cons (ds_ret de_bl)
    dss_nil))
theorem c__law_right (h : Fx K mg) : CD P w K mg base 8 (.ref (d__law_right.ad K)) 1 [] g__law_right := by
  obtain ⟨fd, F⟩ := h.fn__law_right
  exact CD.pos true F sc__law_right (body__law_right h) (F.bindsN fun _ _ _ _ _ _ us hl => match us, hl with | [_], _ => rfl)
theorem body__law_pool (h : Fx K mg) : BodyOk P w K mg base 0 N__law_pool "_law_pool" (defScope s__law_pool) (d__law_pool.ad K) (defBody s__law_pool) b__law_pool := fun cd A outer s H E hr => by
  have nd := sc__law_pool.nd
  exact (dss_cons (ds_set 1 nd (de_if (dt_w (dw_or (dt_lt (de_v 0) de_int) (dw_or1 (dt_ge (de_v 0) (de_pow de_int de_int))))) (de_abs rfl h.f_abs (da_cons (de_v 0) da_nil)) de_int))
    (dss_cons (ds_ret (de_lstC (da_cons (de_mod (de_cint rfl h.f_int (da_cons (de_v 0) da_nil)) de_int) (da_cons (de_v 1) (da_cons de_int da_nil)))))
    dss_nil))
theorem c__law_pool (h : Fx K mg) : CD P w K mg base 1 (.ref (d__law_pool.ad K)) 1 [] g__law_pool := by
  obtain ⟨fd, F⟩ := h.fn__law_pool
  exact CD.pos false F sc__law_pool (body__law_pool h) (F.bindsN fun _ _ _ _ _ _ us hl => match us, hl with | [_], _ => rfl)
theorem body__law_cell (h : Fx K mg) : BodyOk P w K mg base 0 N__law_cell "_law_cell" (defScope s__law_cell) (d__law_cell.ad K) (defBody s__law_cell) b__law_cell := fun cd A outer s H E hr => by
  have nd := sc__law_cell.nd
  exact (dss_cons (ds_if (dt_lt (de_v 1) (de_len rfl h.f_len (da_cons (de_v 0) da_nil))) (dss_cons (ds_ret (de_cint rfl h.f_int (da_cons (de_ix (de_v 0) (de_v 1)) da_nil)))
    dss_nil) dss_nil)
    (dss_cons (ds_set 2 nd (de_mod (de_cint rfl h.f_int (da_cons (de_mul de_int (de_add (de_add (de_mul (de_v 1) (de_v 1)) (de_mul de_int (de_v 1))) de_int)) da_nil)) de_int))
    (dss_cons (ds_for passB rfl (di_seq (de_sl (de_v 0) do_n (do_s de_int))) (dg_n 3 nd) (dss_cons (ds_set 2 nd (de_mod (de_cint rfl h.f_int (da_cons (de_add (de_mul (de_v 2) de_int) (de_v 3)) da_nil)) de_int))
    dss_nil))
    (dss_cons (ds_ret (de_v 2))
    dss_nil))))
theorem c__law_cell (h : Fx K mg) : CD P w K mg base 1 (.ref (d__law_cell.ad K)) 2 [] g__law_cell := by
  obtain ⟨fd, F⟩ := h.fn__law_cell
  exact CD.pos true F sc__law_cell (body__law_cell h) (F.bindsN fun _ _ _ _ _ _ us hl => match us, hl with | [_, _], _ => rfl)
theorem body_law (h : Fx K mg) : BodyOk P w K mg base 8 N_law "law" (defScope s_law) (d_law.ad K) (defBody s_law) b_law := fun cd A outer s H E hr => by
  have nd := sc_law.nd
  exact (dss_cons (ds_set 1 nd (de_call (CD.mk true (c := 23) h.m_Sizes (c_Sizes_init_3 h) (hr.mono (j := 5) (by decide)) takesB) rfl h.g_Sizes h.m_Sizes.kp (da_cons (de_tup (da_cons de_int (da_cons de_non (da_cons de_int (da_cons de_int da_nil))))) (da_cons (de_tup (da_cons de_int (da_cons de_int (da_cons de_int (da_cons de_non da_nil))))) da_nil))))
    (dss_cons (ds_if (dt_ne hr.r.units (de_repr hr rfl h.f_repr (let ⟨_, F, B⟩ := cg_Sizes_boxes h; de_lcGm (c := 23) (de_v 1) h.c_Sizes h.me_Sizes_boxes (noFld_of (by decide +kernel) (by decide +kernel)) rfl F B (hr.mono (j := 4) (by decide)) rfl rfl (by decide))) (de_str (l := [91, 40, 49, 44, 32, 50, 44, 32, 49, 44, 32, 57, 41, 44, 32, 40, 51, 44, 32, 53, 44, 32, 49, 44, 32, 78, 111, 110, 101, 41, 44, 32, 40, 54, 44, 32, 78, 111, 110, 101, 44, 32, 49, 44, 32, 57, 41, 93]) (by decide +kernel))) (dss_cons (ds_ret de_bl)
    dss_nil) dss_nil)
    (dss_cons (ds_if (dt_w (dw_or (dt_not (dt_val (de_call ((c__law_told_right h).x (hr.mono (j := 7) (by decide)) takesB) rfl h.g__law_told_right h.kp__law_told_right (da_cons (de_call0 (CD.mk true (c := 23) h.m_Sizes (c_Sizes_init_1 h) (hr.mono (j := 5) (by decide)) takesB) rfl h.g_Sizes h.m_Sizes.kp) da_nil)))) (dw_or1 (dt_not (dt_val (de_call ((c__law_told_right h).x (hr.mono (j := 7) (by decide)) takesB) rfl h.g__law_told_right h.kp__law_told_right (da_cons (de_cmeth0 23 rfl h.g_Sizes h.cm_Sizes_every.1 h.cm_Sizes_every.2 (c_Sizes_every h) (hr.mono (j := 6) (by decide)) takesB) da_nil))))))) (dss_cons (ds_ret de_bl)
    dss_nil) dss_nil)
    (dss_cons (ds_set 2 nd (de_inv (c := 23) h.du_Sizes_invert.1 h.du_Sizes_invert.2 (c_Sizes_invert h) (hr.mono (j := 6) (by decide)) (de_call (CD.mk true (c := 23) h.m_Sizes (c_Sizes_init_2 h) (hr.mono (j := 5) (by decide)) takesB) rfl h.g_Sizes h.m_Sizes.kp (da_cons (de_tup (da_cons de_int (da_cons (de_pow de_int de_int) (da_cons de_int (da_cons (de_pow de_int de_int) da_nil))))) da_nil))))
    (dss_cons (ds_set 3 nd (de_lst (da_cons (de_tup (da_cons de_int (da_cons (de_pow de_int de_int) (da_cons (de_add (de_pow de_int de_int) de_int) (da_cons de_non da_nil))))) (da_cons (de_tup (da_cons (de_add (de_pow de_int de_int) de_int) (da_cons de_non (da_cons de_int (da_cons de_non da_nil))))) da_nil))))
    (dss_cons (ds_if (dt_w (dw_or (dt_ne hr.r.units (de_repr hr rfl h.f_repr (let ⟨_, F, B⟩ := cg_Sizes_boxes h; de_lcGm (c := 23) (de_v 2) h.c_Sizes h.me_Sizes_boxes (noFld_of (by decide +kernel) (by decide +kernel)) rfl F B (hr.mono (j := 4) (by decide)) rfl rfl (by decide))) (de_repr hr rfl h.f_repr (de_v 3))) (dw_or (dt_ne hr.r.units (de_lenOwn (c := 23) rfl h.f_len h.du_Sizes_len.1 h.du_Sizes_len.2 (c_Sizes_len h) (hr.mono (j := 3) (by decide)) (de_v 2)) de_int) (dw_or1 (dt_ne hr.r.units (de_reprOwn (c := 23) rfl h.f_repr h.du_Sizes_repr.1 h.du_Sizes_repr.2 (c_Sizes_repr h) (hr.mono (j := 5) (by decide)) (de_v 2)) (de_str (l := [83, 105, 122, 101, 115, 40, 50, 32, 98, 111, 120, 101, 115, 41]) (by decide +kernel))))))) (dss_cons (ds_ret de_bl)
    dss_nil) dss_nil)
    (dss_cons (ds_ret (de_all rfl rfl h.f_all (da_cons (de_lc [("_law_k", 4)] rfl nd (di_range1 rfl h.f_range (de_max rfl rfl h.f_max (da_cons de_int (da_cons (de_min rfl rfl h.f_min (da_cons (de_len rfl h.f_len (da_cons (de_v 0) da_nil)) (da_cons de_int da_nil))) da_nil)))) (blkOk_by (N := N_law) (sc := defScope s_law) (by decide +kernel)) (fun _ _ _ _ _ => (dp_n 4 nd)) (fun _ _ _ _ _ => dts_nil) (fun _ _ _ _ _ => (de_call ((c__law_right h).x (hr.mono (j := 8) (by decide)) takes0) rfl h.g__law_right h.kp__law_right (da_cons (de_call ((c__law_pool h).x (hr.mono (j := 1) (by decide)) takes0) rfl h.g__law_pool h.kp__law_pool (da_cons (de_call ((c__law_cell h).x (hr.mono (j := 1) (by decide)) takes0) rfl h.g__law_cell h.kp__law_cell (da_cons (de_v 0) (da_cons (de_v 4) da_nil))) da_nil)) da_nil)))) da_nil)))
    dss_nil)))))))
theorem c_law (h : Fx K mg) : CD P w K mg base 9 (.ref (d_law.ad K)) 1 [] g_law := by
  obtain ⟨fd, F⟩ := h.fn_law
  exact CD.pos true F sc_law (body_law h) (F.bindsN fun _ _ _ _ _ _ us hl => match us, hl with | [_], _ => rfl)
end
end DL.K05
set_option linter.all false
set_option maxRecDepth 100000
set_option maxHeartbeats 4000000
namespace DL.K05
open PySem PySem.Spec PyProof.Rows L2 DL
def isIntD (v : Dat) (a b : Int) : Bool := match v with
  | .int i => decide (a ≤ i) && decide (i ≤ b)
  | _ => false
/-- no instance, no class, no script among the data -/
def plainD : Dat → Bool
  | .ins _ _ => false
  | .cls _ => false
  | .fl _ => false
  | _ => true
theorem is_integer_eq (v : Dat) (h : plainD v = true) (a b : Int) (μ : List Cel) : g_is_integer [.d v, .d (.int a), .d (.int b)] μ = .ok (.d (.bl (isIntD v a b))) μ := by
  unfold g_is_integer b_is_integer
  cases v with
  | int i =>
    simp only [fnG, rho0, sSeq, sRet]
    rw [eAnd_b (x := true) (y := isIntD (.int i) a b) (by simp [fnG, rho0, fin, finV, sSeq, sIf, sRet, sRetN, sSkip, sDo, sAsg, gN, eK, eV, e1, e2, eN, as0, as1, eCall, okD, tBool, tNotX, tTru, truD, eNot, eIf, cutM_self, addD, subD, leD, ltD, gtD, geD, isN, notN, isNonD, ixD, ofO, isiG, tyNm, isiB, lenG, lenN]) fun _ => by
      rw [eAnd_b (x := true) (y := isIntD (.int i) a b) (by simp [fnG, rho0, fin, finV, sSeq, sIf, sRet, sRetN, sSkip, sDo, sAsg, gN, eK, eV, e1, e2, eN, as0, as1, eCall, okD, tBool, tNotX, tTru, truD, eNot, eIf, cutM_self, addD, subD, leD, ltD, gtD, geD, isN, notN, isNonD, ixD, ofO, isiG, tyNm, isiB, lenG, lenN]) fun _ => by rw [eChain_ii (a := a) (b := i) (c := b) (by simp [fnG, rho0, fin, finV, sSeq, sIf, sRet, sRetN, sSkip, sDo, sAsg, gN, eK, eV, e1, e2, eN, as0, as1, eCall, okD, tBool, tNotX, tTru, truD, eNot, eIf, cutM_self, addD, subD, leD, ltD, gtD, geD, isN, notN, isNonD, ixD, ofO, isiG, tyNm, isiB, lenG, lenN]) (by simp [fnG, rho0, fin, finV, sSeq, sIf, sRet, sRetN, sSkip, sDo, sAsg, gN, eK, eV, e1, e2, eN, as0, as1, eCall, okD, tBool, tNotX, tTru, truD, eNot, eIf, cutM_self, addD, subD, leD, ltD, gtD, geD, isN, notN, isNonD, ixD, ofO, isiG, tyNm, isiB, lenG, lenN]) (by simp [fnG, rho0, fin, finV, sSeq, sIf, sRet, sRetN, sSkip, sDo, sAsg, gN, eK, eV, e1, e2, eN, as0, as1, eCall, okD, tBool, tNotX, tTru, truD, eNot, eIf, cutM_self, addD, subD, leD, ltD, gtD, geD, isN, notN, isNonD, ixD, ofO, isiG, tyNm, isiB, lenG, lenN])]; rfl]
      simp [fnG, rho0, fin, finV, sSeq, sIf, sRet, sRetN, sSkip, sDo, sAsg, gN, eK, eV, e1, e2, eN, as0, as1, eCall, okD, tBool, tNotX, tTru, truD, eNot, eIf, cutM_self, addD, subD, leD, ltD, gtD, geD, isN, notN, isNonD, ixD, ofO, isiG, tyNm, isiB, lenG, lenN]]
    simp [fnG, rho0, fin, finV, sSeq, sIf, sRet, sRetN, sSkip, sDo, sAsg, gN, eK, eV, e1, e2, eN, as0, as1, eCall, okD, tBool, tNotX, tTru, truD, eNot, eIf, cutM_self, addD, subD, leD, ltD, gtD, geD, isN, notN, isNonD, ixD, ofO, isiG, tyNm, isiB, lenG, lenN]
  | bl x =>
    simp only [fnG, rho0, sSeq, sRet]
    rw [eAnd_b (x := true) (y := false) (by simp [fnG, rho0, fin, finV, sSeq, sIf, sRet, sRetN, sSkip, sDo, sAsg, gN, eK, eV, e1, e2, eN, as0, as1, eCall, okD, tBool, tNotX, tTru, truD, eNot, eIf, cutM_self, addD, subD, leD, ltD, gtD, geD, isN, notN, isNonD, ixD, ofO, isiG, tyNm, isiB, lenG, lenN]) fun _ => by
      rw [eAnd_b (x := false) (y := false) (by simp [fnG, rho0, fin, finV, sSeq, sIf, sRet, sRetN, sSkip, sDo, sAsg, gN, eK, eV, e1, e2, eN, as0, as1, eCall, okD, tBool, tNotX, tTru, truD, eNot, eIf, cutM_self, addD, subD, leD, ltD, gtD, geD, isN, notN, isNonD, ixD, ofO, isiG, tyNm, isiB, lenG, lenN]) fun h => by cases h]
      simp [fnG, rho0, fin, finV, sSeq, sIf, sRet, sRetN, sSkip, sDo, sAsg, gN, eK, eV, e1, e2, eN, as0, as1, eCall, okD, tBool, tNotX, tTru, truD, eNot, eIf, cutM_self, addD, subD, leD, ltD, gtD, geD, isN, notN, isNonD, ixD, ofO, isiG, tyNm, isiB, lenG, lenN]]
    simp [fnG, rho0, fin, finV, sSeq, sIf, sRet, sRetN, sSkip, sDo, sAsg, gN, eK, eV, e1, e2, eN, as0, as1, eCall, okD, tBool, tNotX, tTru, truD, eNot, eIf, cutM_self, addD, subD, leD, ltD, gtD, geD, isN, notN, isNonD, ixD, ofO, isiG, tyNm, isiB, lenG, lenN, isIntD]
  | ins _ _ => simp [fnG, rho0, fin, finV, sSeq, sIf, sRet, sRetN, sSkip, sDo, sAsg, gN, eK, eV, e1, e2, eN, as0, as1, eCall, okD, tBool, tNotX, tTru, truD, eNot, eIf, cutM_self, addD, subD, leD, ltD, gtD, geD, isN, notN, isNonD, ixD, ofO, isiG, tyNm, isiB, lenG, lenN, plainD] at h
  | cls _ => simp [fnG, rho0, fin, finV, sSeq, sIf, sRet, sRetN, sSkip, sDo, sAsg, gN, eK, eV, e1, e2, eN, as0, as1, eCall, okD, tBool, tNotX, tTru, truD, eNot, eIf, cutM_self, addD, subD, leD, ltD, gtD, geD, isN, notN, isNonD, ixD, ofO, isiG, tyNm, isiB, lenG, lenN, plainD] at h
  | fl _ => simp [fnG, rho0, fin, finV, sSeq, sIf, sRet, sRetN, sSkip, sDo, sAsg, gN, eK, eV, e1, e2, eN, as0, as1, eCall, okD, tBool, tNotX, tTru, truD, eNot, eIf, cutM_self, addD, subD, leD, ltD, gtD, geD, isN, notN, isNonD, ixD, ofO, isiG, tyNm, isiB, lenG, lenN, plainD] at h
  | _ =>
    simp only [fnG, rho0, sSeq, sRet]
    rw [eAnd_b (x := false) (y := false) (by simp [fnG, rho0, fin, finV, sSeq, sIf, sRet, sRetN, sSkip, sDo, sAsg, gN, eK, eV, e1, e2, eN, as0, as1, eCall, okD, tBool, tNotX, tTru, truD, eNot, eIf, cutM_self, addD, subD, leD, ltD, gtD, geD, isN, notN, isNonD, ixD, ofO, isiG, tyNm, isiB, lenG, lenN]) fun h => by cases h]
    simp [fnG, rho0, fin, finV, sSeq, sIf, sRet, sRetN, sSkip, sDo, sAsg, gN, eK, eV, e1, e2, eN, as0, as1, eCall, okD, tBool, tNotX, tTru, truD, eNot, eIf, cutM_self, addD, subD, leD, ltD, gtD, geD, isN, notN, isNonD, ixD, ofO, isiG, tyNm, isiB, lenG, lenN, isIntD]
/-- the end of a stretch -/
def optD : Option Int → Dat
  | none => .non
  | some i => .int i
def okEnd (a : Int) : Option Int → Bool
  | none => true
  | some b => decide (a ≤ b) && decide (b ≤ 1000000000)
theorem is_stretch_eq (a : Int) (b : Option Int) (μ : List Cel) (ha : 1 ≤ a ∧ a ≤ 1000000000) (hb : okEnd a b = true) : g_is_stretch [.d (.int a), .d (optD b)] μ = .ok (.d (.bl true)) μ := by
  unfold g_is_stretch b_is_stretch
  simp only [fnG, rho0, sSeq, sRet]
  have h1 : isIntD (.int a) 1 1000000000 = true := by simp [fnG, rho0, fin, finV, sSeq, sIf, sRet, sRetN, sSkip, sDo, sAsg, gN, eK, eV, e1, e2, eN, as0, as1, eCall, okD, tBool, tNotX, tTru, truD, eNot, eIf, cutM_self, addD, subD, leD, ltD, gtD, geD, isN, notN, isNonD, ixD, ofO, isiG, tyNm, isiB, lenG, lenN, isIntD, ha]
  rw [eAnd_b (x := true) (y := true) (by simp [fnG, rho0, fin, finV, sSeq, sIf, sRet, sRetN, sSkip, sDo, sAsg, gN, eK, eV, e1, e2, eN, as0, as1, eCall, okD, tBool, tNotX, tTru, truD, eNot, eIf, cutM_self, addD, subD, leD, ltD, gtD, geD, isN, notN, isNonD, ixD, ofO, isiG, tyNm, isiB, lenG, lenN, is_integer_eq _ (rfl : plainD (.int a) = true), h1]) fun _ => by
    cases b with
    | none => rw [eOr_b (x := true) (y := true) (by simp [fnG, rho0, fin, finV, sSeq, sIf, sRet, sRetN, sSkip, sDo, sAsg, gN, eK, eV, e1, e2, eN, as0, as1, eCall, okD, tBool, tNotX, tTru, truD, eNot, eIf, cutM_self, addD, subD, leD, ltD, gtD, geD, isN, notN, isNonD, ixD, ofO, isiG, tyNm, isiB, lenG, lenN, optD]) fun h => by cases h]; rfl
    | some b =>
      have h2 : isIntD (.int b) a 1000000000 = true := by simpa [fnG, rho0, fin, finV, sSeq, sIf, sRet, sRetN, sSkip, sDo, sAsg, gN, eK, eV, e1, e2, eN, as0, as1, eCall, okD, tBool, tNotX, tTru, truD, eNot, eIf, cutM_self, addD, subD, leD, ltD, gtD, geD, isN, notN, isNonD, ixD, ofO, isiG, tyNm, isiB, lenG, lenN, isIntD, okEnd] using hb
      rw [eOr_b (x := false) (y := true) (by simp [fnG, rho0, fin, finV, sSeq, sIf, sRet, sRetN, sSkip, sDo, sAsg, gN, eK, eV, e1, e2, eN, as0, as1, eCall, okD, tBool, tNotX, tTru, truD, eNot, eIf, cutM_self, addD, subD, leD, ltD, gtD, geD, isN, notN, isNonD, ixD, ofO, isiG, tyNm, isiB, lenG, lenN, optD]) fun _ => by simp [fnG, rho0, fin, finV, sSeq, sIf, sRet, sRetN, sSkip, sDo, sAsg, gN, eK, eV, e1, e2, eN, as0, as1, eCall, okD, tBool, tNotX, tTru, truD, eNot, eIf, cutM_self, addD, subD, leD, ltD, gtD, geD, isN, notN, isNonD, ixD, ofO, isiG, tyNm, isiB, lenG, lenN, optD, is_integer_eq _ (rfl : plainD (.int b) = true), h2]]; rfl]
  simp [fnG, rho0, fin, finV, sSeq, sIf, sRet, sRetN, sSkip, sDo, sAsg, gN, eK, eV, e1, e2, eN, as0, as1, eCall, okD, tBool, tNotX, tTru, truD, eNot, eIf, cutM_self, addD, subD, leD, ltD, gtD, geD, isN, notN, isNonD, ixD, ofO, isiG, tyNm, isiB, lenG, lenN]
/-- a box -/
structure Bx where
  a : Int
  b : Option Int
  c : Int
  d : Option Int
def bxD (x : Bx) : Dat := .tup [.int x.a, optD x.b, .int x.c, optD x.d]
@[simp] theorem blT_bx (x : Bx) (l : List Dat) : blT (bxD x :: l) = false := rfl
@[simp] theorem blT_bxs (l : List Bx) : blT (l.map bxD) = false := by cases l <;> rfl
def okBx (x : Bx) : Prop := (1 ≤ x.a ∧ x.a ≤ 1000000000) ∧ okEnd x.a x.b = true ∧ (1 ≤ x.c ∧ x.c ≤ 1000000000) ∧ okEnd x.c x.d = true
theorem is_box_eq (x : Bx) (h : okBx x) (μ : List Cel) : g_is_box [.d (bxD x)] μ = .ok (.d (.bl true)) μ := by
  unfold g_is_box b_is_box bxD
  obtain ⟨h1, h2, h3, h4⟩ := h
  simp only [fnG, rho0, sSeq, sIf]
  rw [tOr_b (x := false) (y := false) (by simp [fnG, rho0, fin, finV, sSeq, sIf, sRet, sRetN, sSkip, sDo, sAsg, gN, eK, eV, e1, e2, eN, as0, as1, eCall, okD, tBool, tNotX, tTru, truD, eNot, eIf, cutM_self, addD, subD, leD, ltD, gtD, geD, isN, notN, isNonD, ixD, ofO, isiG, tyNm, isiB, lenG, lenN]) fun _ => by simp [fnG, rho0, fin, finV, sSeq, sIf, sRet, sRetN, sSkip, sDo, sAsg, gN, eK, eV, e1, e2, eN, as0, as1, eCall, okD, tBool, tNotX, tTru, truD, eNot, eIf, cutM_self, addD, subD, leD, ltD, gtD, geD, isN, notN, isNonD, ixD, ofO, isiG, tyNm, isiB, lenG, lenN, neB, shal, eqD]]
  simp only [osbind_ok, sRet, sSkip]
  simp only [Bool.or_self, Bool.false_eq_true, if_false, sbind_nx, sSeq, sRet]
  rw [eAnd_b (x := true) (y := true) (by simp [fnG, rho0, fin, finV, sSeq, sIf, sRet, sRetN, sSkip, sDo, sAsg, gN, eK, eV, e1, e2, eN, as0, as1, eCall, okD, tBool, tNotX, tTru, truD, eNot, eIf, cutM_self, addD, subD, leD, ltD, gtD, geD, isN, notN, isNonD, ixD, ofO, isiG, tyNm, isiB, lenG, lenN, atI, ixN, is_stretch_eq x.a x.b μ h1 h2]) fun _ => by simp [fnG, rho0, fin, finV, sSeq, sIf, sRet, sRetN, sSkip, sDo, sAsg, gN, eK, eV, e1, e2, eN, as0, as1, eCall, okD, tBool, tNotX, tTru, truD, eNot, eIf, cutM_self, addD, subD, leD, ltD, gtD, geD, isN, notN, isNonD, ixD, ofO, isiG, tyNm, isiB, lenG, lenN, atI, ixN, is_stretch_eq x.c x.d μ h3 h4]]
  simp [fnG, rho0, fin, finV, sSeq, sIf, sRet, sRetN, sSkip, sDo, sAsg, gN, eK, eV, e1, e2, eN, as0, as1, eCall, okD, tBool, tNotX, tTru, truD, eNot, eIf, cutM_self, addD, subD, leD, ltD, gtD, geD, isN, notN, isNonD, ixD, ofO, isiG, tyNm, isiB, lenG, lenN]
def stD (p : Int × Option Int) : Dat := .tup [.int p.1, optD p.2]
def behind (l : List (Int × Option Int)) : List Int := l.filterMap fun p => p.2.map (· + 1)
def starts (l : List (Int × Option Int)) : List Int := sSet (1 :: l.map (·.1) ++ behind l)
theorem pat2 {n i j : Nat} (a b : Dat) (ρ : Rho) (μ : List Cel) : gT 2 (gsC (gN i) (gsC (gN j) gsN)) (.d (.tup [a, b])) ρ μ = .nx ((ρ.set i (some (.d a))).set j (some (.d b))) μ := by
  simp [fnG, rho0, fin, finV, sSeq, sIf, sRet, sRetN, sSkip, sDo, sAsg, gN, eK, eV, e1, e2, eN, as0, as1, eCall, okD, tBool, tNotX, tTru, truD, eNot, eIf, cutM_self, addD, subD, leD, ltD, gtD, geD, isN, notN, isNonD, ixD, ofO, isiG, tyNm, isiB, lenG, lenN, gT, gsC, gsN]
theorem intsD_ints (ns : List Int) : intsD (intsDat ns) = some ns := by
  induction ns with
  | nil => rfl
  | cons n ns ih => simp [fnG, rho0, fin, finV, sSeq, sIf, sRet, sRetN, sSkip, sDo, sAsg, gN, eK, eV, e1, e2, eN, as0, as1, eCall, okD, tBool, tNotX, tTru, truD, eNot, eIf, cutM_self, addD, subD, leD, ltD, gtD, geD, isN, notN, isNonD, ixD, ofO, isiG, tyNm, isiB, lenG, lenN, intsDat, intsD] at * <;> rw [ih]
theorem filterMap_st (l : List (Int × Option Int)) : (l.map stD).filterMap (fun d => match d with
    | .tup [_, .int b] => some (.int (b + 1))
    | _ => none) = intsDat (behind l) := by
  induction l with
  | nil => rfl
  | cons p l ih =>
    obtain ⟨a, b⟩ := p
    cases b with
    | none => simpa [fnG, rho0, fin, finV, sSeq, sIf, sRet, sRetN, sSkip, sDo, sAsg, gN, eK, eV, e1, e2, eN, as0, as1, eCall, okD, tBool, tNotX, tTru, truD, eNot, eIf, cutM_self, addD, subD, leD, ltD, gtD, geD, isN, notN, isNonD, ixD, ofO, isiG, tyNm, isiB, lenG, lenN, stD, optD, behind, intsDat] using ih
    | some b => simpa [fnG, rho0, fin, finV, sSeq, sIf, sRet, sRetN, sSkip, sDo, sAsg, gN, eK, eV, e1, e2, eN, as0, as1, eCall, okD, tBool, tNotX, tTru, truD, eNot, eIf, cutM_self, addD, subD, leD, ltD, gtD, geD, isN, notN, isNonD, ixD, ofO, isiG, tyNm, isiB, lenG, lenN, stD, optD, behind, intsDat] using ih
theorem band_starts_eq (l : List (Int × Option Int)) (hl : l.length ≤ 20) (μ : List Cel) (hc : Clo μ) : g_band_starts [.d (.lst (l.map stD))] μ = .ok (.d (.tup (intsDat (starts l)))) μ := by
  unfold g_band_starts b_band_starts
  refine fn_rt0 ?_
  have hlim : (l.map stD).length ≤ LIM := by simp [fnG, rho0, fin, finV, sSeq, sIf, sRet, sRetN, sSkip, sDo, sAsg, gN, eK, eV, e1, e2, eN, as0, as1, eCall, okD, tBool, tNotX, tTru, truD, eNot, eIf, cutM_self, addD, subD, leD, ltD, gtD, geD, isN, notN, isNonD, ixD, ofO, isiG, tyNm, isiB, lenG, lenN]; exact Nat.le_trans hl (by decide)
  rw [st_set (eLc_map hc (ds := l.map stD) (by simp [fnG, rho0, fin, finV, sSeq, sIf, sRet, sRetN, sSkip, sDo, sAsg, gN, eK, eV, e1, e2, eN, as0, as1, eCall, okD, tBool, tNotX, tTru, truD, eNot, eIf, cutM_self, addD, subD, leD, ltD, gtD, geD, isN, notN, isNonD, ixD, ofO, isiG, tyNm, isiB, lenG, lenN, iSeq, seqIt, ofS]) hlim (fun d => match d with
    | .tup [a, _] => a
    | d => d) (fun d hd acc => by
      obtain ⟨p, _, rfl⟩ := List.mem_map.mp hd
      refine ⟨_, _, pat2 (n := 0) _ _ _ _, ?_⟩
      simp [fnG, rho0, fin, finV, sSeq, sIf, sRet, sRetN, sSkip, sDo, sAsg, gN, eK, eV, e1, e2, eN, as0, as1, eCall, okD, tBool, tNotX, tTru, truD, eNot, eIf, cutM_self, addD, subD, leD, ltD, gtD, geD, isN, notN, isNonD, ixD, ofO, isiG, tyNm, isiB, lenG, lenN, wipeR, stD]))]
  rw [st_set (eLc_pure hc (ds := l.map stD) (by simp [fnG, rho0, fin, finV, sSeq, sIf, sRet, sRetN, sSkip, sDo, sAsg, gN, eK, eV, e1, e2, eN, as0, as1, eCall, okD, tBool, tNotX, tTru, truD, eNot, eIf, cutM_self, addD, subD, leD, ltD, gtD, geD, isN, notN, isNonD, ixD, ofO, isiG, tyNm, isiB, lenG, lenN, iSeq, seqIt, ofS]) hlim (fun d => match d with
    | .tup [_, .int b] => some (.int (b + 1))
    | _ => none) (fun d hd acc => by
      obtain ⟨p, _, rfl⟩ := List.mem_map.mp hd
      obtain ⟨a, b⟩ := p
      cases b with
      | none => exact ⟨_, _, pat2 (n := 0) _ _ _ _, by simp [fnG, rho0, fin, finV, sSeq, sIf, sRet, sRetN, sSkip, sDo, sAsg, gN, eK, eV, e1, e2, eN, as0, as1, eCall, okD, tBool, tNotX, tTru, truD, eNot, eIf, cutM_self, addD, subD, leD, ltD, gtD, geD, isN, notN, isNonD, ixD, ofO, isiG, tyNm, isiB, lenG, lenN, wipeR, stD, optD]⟩
      | some b => exact ⟨_, _, pat2 (n := 0) _ _ _ _, by simp [fnG, rho0, fin, finV, sSeq, sIf, sRet, sRetN, sSkip, sDo, sAsg, gN, eK, eV, e1, e2, eN, as0, as1, eCall, okD, tBool, tNotX, tTru, truD, eNot, eIf, cutM_self, addD, subD, leD, ltD, gtD, geD, isN, notN, isNonD, ixD, ofO, isiG, tyNm, isiB, lenG, lenN, wipeR, stD, optD]⟩))]
  have q1 : (l.map stD).map (fun d => match d with
    | .tup [a, _] => a
    | d => d) = intsDat (l.map (·.1)) := by simp [fnG, rho0, fin, finV, sSeq, sIf, sRet, sRetN, sSkip, sDo, sAsg, gN, eK, eV, e1, e2, eN, as0, as1, eCall, okD, tBool, tNotX, tTru, truD, eNot, eIf, cutM_self, addD, subD, leD, ltD, gtD, geD, isN, notN, isNonD, ixD, ofO, isiG, tyNm, isiB, lenG, lenN, intsDat, stD, Function.comp_def]
  rw [q1, filterMap_st]
  have n1 : (behind l).length ≤ l.length := by unfold behind; exact List.length_filterMap_le _ _
  have hz1 : 1 + (intsDat (l.map (·.1))).length ≤ LIM := by simp [fnG, rho0, fin, finV, sSeq, sIf, sRet, sRetN, sSkip, sDo, sAsg, gN, eK, eV, e1, e2, eN, as0, as1, eCall, okD, tBool, tNotX, tTru, truD, eNot, eIf, cutM_self, addD, subD, leD, ltD, gtD, geD, isN, notN, isNonD, ixD, ofO, isiG, tyNm, isiB, lenG, lenN, intsDat]; exact Nat.le_trans (by omega : 1 + l.length ≤ 21) (by decide)
  have hz2 : 1 + (intsDat (l.map (·.1))).length + (intsDat (behind l)).length ≤ LIM := by simp [fnG, rho0, fin, finV, sSeq, sIf, sRet, sRetN, sSkip, sDo, sAsg, gN, eK, eV, e1, e2, eN, as0, as1, eCall, okD, tBool, tNotX, tTru, truD, eNot, eIf, cutM_self, addD, subD, leD, ltD, gtD, geD, isN, notN, isNonD, ixD, ofO, isiG, tyNm, isiB, lenG, lenN, intsDat]; exact Nat.le_trans (by omega : 1 + l.length + (behind l).length ≤ 41) (by decide)
  have hs : (1 :: l.map (·.1) ++ behind l).length ≤ 41 := by simp [fnG, rho0, fin, finV, sSeq, sIf, sRet, sRetN, sSkip, sDo, sAsg, gN, eK, eV, e1, e2, eN, as0, as1, eCall, okD, tBool, tNotX, tTru, truD, eNot, eIf, cutM_self, addD, subD, leD, ltD, gtD, geD, isN, notN, isNonD, ixD, ofO, isiG, tyNm, isiB, lenG, lenN]; omega
  have hm : (starts l).length ≤ (1 :: l.map (·.1) ++ behind l).length := sSet_le _
  have q2 : intsD (.int 1 :: (intsDat (l.map (·.1)) ++ intsDat (behind l))) = some (1 :: l.map (·.1) ++ behind l) := by
    have : (.int 1 :: (intsDat (l.map (·.1)) ++ intsDat (behind l))) = intsDat (1 :: l.map (·.1) ++ behind l) := by simp [fnG, rho0, fin, finV, sSeq, sIf, sRet, sRetN, sSkip, sDo, sAsg, gN, eK, eV, e1, e2, eN, as0, as1, eCall, okD, tBool, tNotX, tTru, truD, eNot, eIf, cutM_self, addD, subD, leD, ltD, gtD, geD, isN, notN, isNonD, ixD, ofO, isiG, tyNm, isiB, lenG, lenN, intsDat]
    rw [this, intsD_ints]
  have lim1 : (1 : Nat) ≤ LIM := by decide
  have hk : (1 :: l.map (·.1) ++ behind l).length < 1000 ∧ (sSet (1 :: l.map (·.1) ++ behind l)).length < 64 := ⟨by omega, by unfold starts at hm; omega⟩
  have lst1 : ∀ (ρ : Rho), eN eLstD (as1 (eK (.int 1)) as0) ρ μ = .ok (.d (.lst [.int 1])) μ := fun ρ => eN1_ok eK_ok (by simp [fnG, rho0, fin, finV, sSeq, sIf, sRet, sRetN, sSkip, sDo, sAsg, gN, eK, eV, e1, e2, eN, as0, as1, eCall, okD, tBool, tNotX, tTru, truD, eNot, eIf, cutM_self, addD, subD, leD, ltD, gtD, geD, isN, notN, isNonD, ixD, ofO, isiG, tyNm, isiB, lenG, lenN, eLstD, dats, lim1])
  refine st_ret (eN1_ok (e1_ok (e2_ok (e2_ok (lst1 _) (eV_ok (x := .d (.lst (intsDat (l.map (·.1))))) (by simp [fnG, rho0, fin, finV, sSeq, sIf, sRet, sRetN, sSkip, sDo, sAsg, gN, eK, eV, e1, e2, eN, as0, as1, eCall, okD, tBool, tNotX, tTru, truD, eNot, eIf, cutM_self, addD, subD, leD, ltD, gtD, geD, isN, notN, isNonD, ixD, ofO, isiG, tyNm, isiB, lenG, lenN, rho0])) (addL hz1)) (eV_ok (x := .d (.lst (intsDat (behind l)))) (by simp [fnG, rho0, fin, finV, sSeq, sIf, sRet, sRetN, sSkip, sDo, sAsg, gN, eK, eV, e1, e2, eN, as0, as1, eCall, okD, tBool, tNotX, tTru, truD, eNot, eIf, cutM_self, addD, subD, leD, ltD, gtD, geD, isN, notN, isNonD, ixD, ofO, isiG, tyNm, isiB, lenG, lenN, rho0])) (addL (by simpa [fnG, rho0, fin, finV, sSeq, sIf, sRet, sRetN, sSkip, sDo, sAsg, gN, eK, eV, e1, e2, eN, as0, as1, eCall, okD, tBool, tNotX, tTru, truD, eNot, eIf, cutM_self, addD, subD, leD, ltD, gtD, geD, isN, notN, isNonD, ixD, ofO, isiG, tyNm, isiB, lenG, lenN, Nat.add_comm, Nat.add_left_comm, Nat.add_assoc] using hz2))) (sortS hk _ (by simpa [fnG, rho0, fin, finV, sSeq, sIf, sRet, sRetN, sSkip, sDo, sAsg, gN, eK, eV, e1, e2, eN, as0, as1, eCall, okD, tBool, tNotX, tTru, truD, eNot, eIf, cutM_self, addD, subD, leD, ltD, gtD, geD, isN, notN, isNonD, ixD, ofO, isiG, tyNm, isiB, lenG, lenN] using q2))) rfl)
def cnt (st : List Int) (n : Int) : Nat := (st.filter fun s => decide (s ≤ n)).length
def inS (p : Int × Option Int) (n : Int) : Bool := decide (p.1 ≤ n) && (match p.2 with
  | none => true
  | some b => decide (n ≤ b))
theorem is_from_to_eq (p : Int × Option Int) (n : Int) (μ : List Cel) : g_is_from_to [.d (.int p.1), .d (optD p.2), .d (.int n)] μ = .ok (.d (.bl (inS p n))) μ := by
  unfold g_is_from_to b_is_from_to
  obtain ⟨a, b⟩ := p
  refine fn_rt0 (st_ret ?_)
  cases b with
  | none => exact eAnd_b (by simp [fnG, rho0, fin, finV, sSeq, sIf, sRet, sRetN, sSkip, sDo, sAsg, gN, eK, eV, e1, e2, eN, as0, as1, eCall, okD, tBool, tNotX, tTru, truD, eNot, eIf, cutM_self, addD, subD, leD, ltD, gtD, geD, isN, notN, isNonD, ixD, ofO, isiG, tyNm, isiB, lenG, lenN, rho0]) fun _ => by rw [eOr_b (x := true) (y := true) (by simp [fnG, rho0, fin, finV, sSeq, sIf, sRet, sRetN, sSkip, sDo, sAsg, gN, eK, eV, e1, e2, eN, as0, as1, eCall, okD, tBool, tNotX, tTru, truD, eNot, eIf, cutM_self, addD, subD, leD, ltD, gtD, geD, isN, notN, isNonD, ixD, ofO, isiG, tyNm, isiB, lenG, lenN, rho0, optD]) fun h => by cases h]; rfl
  | some b => exact eAnd_b (by simp [fnG, rho0, fin, finV, sSeq, sIf, sRet, sRetN, sSkip, sDo, sAsg, gN, eK, eV, e1, e2, eN, as0, as1, eCall, okD, tBool, tNotX, tTru, truD, eNot, eIf, cutM_self, addD, subD, leD, ltD, gtD, geD, isN, notN, isNonD, ixD, ofO, isiG, tyNm, isiB, lenG, lenN, rho0]) fun _ => by rw [eOr_b (x := false) (y := decide (n ≤ b)) (by simp [fnG, rho0, fin, finV, sSeq, sIf, sRet, sRetN, sSkip, sDo, sAsg, gN, eK, eV, e1, e2, eN, as0, as1, eCall, okD, tBool, tNotX, tTru, truD, eNot, eIf, cutM_self, addD, subD, leD, ltD, gtD, geD, isN, notN, isNonD, ixD, ofO, isiG, tyNm, isiB, lenG, lenN, rho0, optD]) fun _ => by simp [fnG, rho0, fin, finV, sSeq, sIf, sRet, sRetN, sSkip, sDo, sAsg, gN, eK, eV, e1, e2, eN, as0, as1, eCall, okD, tBool, tNotX, tTru, truD, eNot, eIf, cutM_self, addD, subD, leD, ltD, gtD, geD, isN, notN, isNonD, ixD, ofO, isiG, tyNm, isiB, lenG, lenN, rho0, optD]]; rfl
def Bx.r (x : Bx) : Int × Option Int := (x.a, x.b)
def Bx.q (x : Bx) : Int × Option Int := (x.c, x.d)
def blsDat (l : List Bool) : List Dat := l.map .bl
def rowD (l : List Bool) : Dat := .tup (blsDat l)
structure Gr where
  hs : List Int
  ws : List Int
  t : List (List Bool)
def grD (g : Gr) : Dat := .tup [.tup (intsDat g.hs), .tup (intsDat g.ws), .tup (g.t.map rowD)]
def cellOf (bs : List Bx) (H W : Int) : Bool := (bs.filter fun x => inS x.r H).any fun x => inS x.q W
def gridOf (bs : List Bx) : Gr := ⟨starts (bs.map Bx.r), starts (bs.map Bx.q), (starts (bs.map Bx.r)).map fun H => (starts (bs.map Bx.q)).map fun W => cellOf bs H W⟩
theorem starts_len (l : List (Int × Option Int)) : (starts l).length ≤ 1 + 2 * l.length := by
  have h := sSet_le (1 :: l.map (·.1) ++ behind l)
  have n1 : (behind l).length ≤ l.length := by unfold behind; exact List.length_filterMap_le _ _
  have e : starts l = sSet (1 :: l.map (·.1) ++ behind l) := rfl
  rw [e]
  simp only [List.length_append, List.length_cons, List.length_map] at h
  omega
theorem cut2 (a b c d : Dat) : cutL [a, b, c, d] none (some 2) = [a, b] ∧ cutL [a, b, c, d] (some 2) none = [c, d] := by
  constructor <;> simp [fnG, rho0, fin, finV, sSeq, sIf, sRet, sRetN, sSkip, sDo, sAsg, gN, eK, eV, e1, e2, eN, as0, as1, eCall, okD, tBool, tNotX, tTru, truD, eNot, eIf, cutM_self, addD, subD, leD, ltD, gtD, geD, isN, notN, isNonD, ixD, ofO, isiG, tyNm, isiB, lenG, lenN, cutL, HT.sIx]
theorem sl_lo (i : Nat) (x : Bx) (ρ : Rho) (μ : List Cel) (h : ρ[i]? = some (some (.d (bxD x)))) : eSl (eV i) oN (oS (eK (.int 2))) ρ μ = .ok (.d (stD x.r)) μ := by
  unfold eSl oN oS
  rw [eV_ok h, bind_ok, bind_ok, eK_ok]
  simp [fnG, rho0, fin, finV, sSeq, sIf, sRet, sRetN, sSkip, sDo, sAsg, gN, eK, eV, e1, e2, eN, as0, as1, eCall, okD, tBool, tNotX, tTru, truD, eNot, eIf, cutM_self, addD, subD, leD, ltD, gtD, geD, isN, notN, isNonD, ixD, ofO, isiG, tyNm, isiB, lenG, lenN, toI, slD, bxD, cut2, okD, stD, Bx.r]
theorem sl_hi (i : Nat) (x : Bx) (ρ : Rho) (μ : List Cel) (h : ρ[i]? = some (some (.d (bxD x)))) : eSl (eV i) (oS (eK (.int 2))) oN ρ μ = .ok (.d (stD x.q)) μ := by
  unfold eSl oN oS
  rw [eV_ok h, bind_ok, eK_ok]
  simp [fnG, rho0, fin, finV, sSeq, sIf, sRet, sRetN, sSkip, sDo, sAsg, gN, eK, eV, e1, e2, eN, as0, as1, eCall, okD, tBool, tNotX, tTru, truD, eNot, eIf, cutM_self, addD, subD, leD, ltD, gtD, geD, isN, notN, isNonD, ixD, ofO, isiG, tyNm, isiB, lenG, lenN, toI, slD, bxD, cut2, okD, stD, Bx.q]
theorem grid_row (bs : List Bx) (hb : bs.length ≤ 4) (H : Int) (ρ : Rho) (μ : List Cel) (hc : Clo μ) (h0 : ρ[0]? = some (some (.d (.tup (bs.map bxD))))) (h4 : ρ[4]? = some (some (.d (.int H)))) (hl : ρ.length = 10) :
    eLc [6] (iSeq (eV 0)) (gN 6) (tTru (eCall 3 g_is_from_to (as1 (e2 ixD (eV 6) (eK (.int 0))) (as1 (e2 ixD (eV 6) (eK (.int 1))) (as1 (eV 4) as0))))) (eSl (eV 6) (oS (eK (.int 2))) oN) ρ μ =
      .ok (.d (.lst (((bs.filter fun x => inS x.r H).map Bx.q).map stD))) μ := by
  have e : ((bs.map bxD).filterMap fun d => match d with
      | .tup [.int a, b, c, d] => if inS (a, match b with
        | .int b => some b
        | _ => none) H then some (.tup [c, d]) else none
      | _ => none) = ((bs.filter fun x => inS x.r H).map Bx.q).map stD := by
    clear hb h0
    induction bs with
    | nil => rfl
    | cons x bs ih =>
      have hx : (match optD x.b with
        | .int b => some b
        | _ => none) = x.b := by cases x.b <;> rfl
      by_cases h : inS x.r H
      · have h' : inS (x.a, x.b) H = true := h
        simp [fnG, rho0, fin, finV, sSeq, sIf, sRet, sRetN, sSkip, sDo, sAsg, gN, eK, eV, e1, e2, eN, as0, as1, eCall, okD, tBool, tNotX, tTru, truD, eNot, eIf, cutM_self, addD, subD, leD, ltD, gtD, geD, isN, notN, isNonD, ixD, ofO, isiG, tyNm, isiB, lenG, lenN, bxD, hx, h, h', stD, Bx.q] at ih ⊢
        exact ih
      · have h' : inS (x.a, x.b) H = false := by simpa [fnG, rho0, fin, finV, sSeq, sIf, sRet, sRetN, sSkip, sDo, sAsg, gN, eK, eV, e1, e2, eN, as0, as1, eCall, okD, tBool, tNotX, tTru, truD, eNot, eIf, cutM_self, addD, subD, leD, ltD, gtD, geD, isN, notN, isNonD, ixD, ofO, isiG, tyNm, isiB, lenG, lenN, Bx.r] using h
        simp [fnG, rho0, fin, finV, sSeq, sIf, sRet, sRetN, sSkip, sDo, sAsg, gN, eK, eV, e1, e2, eN, as0, as1, eCall, okD, tBool, tNotX, tTru, truD, eNot, eIf, cutM_self, addD, subD, leD, ltD, gtD, geD, isN, notN, isNonD, ixD, ofO, isiG, tyNm, isiB, lenG, lenN, bxD, hx, h, h'] at ih ⊢
        exact ih
  rw [← e]
  refine eLc_pure hc (ds := bs.map bxD) (by simp [fnG, rho0, fin, finV, sSeq, sIf, sRet, sRetN, sSkip, sDo, sAsg, gN, eK, eV, e1, e2, eN, as0, as1, eCall, okD, tBool, tNotX, tTru, truD, eNot, eIf, cutM_self, addD, subD, leD, ltD, gtD, geD, isN, notN, isNonD, ixD, ofO, isiG, tyNm, isiB, lenG, lenN, iSeq, h0, seqIt, ofS]) (by simp [fnG, rho0, fin, finV, sSeq, sIf, sRet, sRetN, sSkip, sDo, sAsg, gN, eK, eV, e1, e2, eN, as0, as1, eCall, okD, tBool, tNotX, tTru, truD, eNot, eIf, cutM_self, addD, subD, leD, ltD, gtD, geD, isN, notN, isNonD, ixD, ofO, isiG, tyNm, isiB, lenG, lenN]; exact Nat.le_trans hb (by decide)) _ fun d hd acc => ?_
  obtain ⟨x, _, rfl⟩ := List.mem_map.mp hd
  have hx : (match optD x.b with
    | .int b => some b
    | _ => none) = x.b := by cases x.b <;> rfl
  refine ⟨_, _, rfl, ?_⟩
  have g6 : ((wipeR ρ [6]).set 6 (some (.d (bxD x))))[6]? = some (some (.d (bxD x))) := by simp [fnG, rho0, fin, finV, sSeq, sIf, sRet, sRetN, sSkip, sDo, sAsg, gN, eK, eV, e1, e2, eN, as0, as1, eCall, okD, tBool, tNotX, tTru, truD, eNot, eIf, cutM_self, addD, subD, leD, ltD, gtD, geD, isN, notN, isNonD, ixD, ofO, isiG, tyNm, isiB, lenG, lenN, wipeR, hl]
  have g4 : ((wipeR ρ [6]).set 6 (some (.d (bxD x))))[4]? = some (some (.d (.int H))) := by simp [fnG, rho0, fin, finV, sSeq, sIf, sRet, sRetN, sSkip, sDo, sAsg, gN, eK, eV, e1, e2, eN, as0, as1, eCall, okD, tBool, tNotX, tTru, truD, eNot, eIf, cutM_self, addD, subD, leD, ltD, gtD, geD, isN, notN, isNonD, ixD, ofO, isiG, tyNm, isiB, lenG, lenN, wipeR, h4]
  have t : ∀ μ', tTru (eCall 3 g_is_from_to (as1 (e2 ixD (eV 6) (eK (.int 0))) (as1 (e2 ixD (eV 6) (eK (.int 1))) (as1 (eV 4) as0)))) ((wipeR ρ [6]).set 6 (some (.d (bxD x)))) μ' = .ok (inS x.r H) μ' := fun μ' =>
    tT_ok (eC3_ok (e2_ok (r := .ok (.d (.int x.r.1)) μ') (eV_ok g6) eK_ok (by simp [fnG, rho0, fin, finV, sSeq, sIf, sRet, sRetN, sSkip, sDo, sAsg, gN, eK, eV, e1, e2, eN, as0, as1, eCall, okD, tBool, tNotX, tTru, truD, eNot, eIf, cutM_self, addD, subD, leD, ltD, gtD, geD, isN, notN, isNonD, ixD, ofO, isiG, tyNm, isiB, lenG, lenN, ixD, bxD, atI, ixN, ofO, okD, Bx.r])) (e2_ok (r := .ok (.d (optD x.r.2)) μ') (eV_ok g6) eK_ok (by simp [fnG, rho0, fin, finV, sSeq, sIf, sRet, sRetN, sSkip, sDo, sAsg, gN, eK, eV, e1, e2, eN, as0, as1, eCall, okD, tBool, tNotX, tTru, truD, eNot, eIf, cutM_self, addD, subD, leD, ltD, gtD, geD, isN, notN, isNonD, ixD, ofO, isiG, tyNm, isiB, lenG, lenN, ixD, bxD, atI, ixN, ofO, okD, Bx.r])) (eV_ok g4) (is_from_to_eq x.r H μ'))
  have hr : (x.a, x.b) = x.r := rfl
  simp only [bxD, hx, hr]
  by_cases h : inS x.r H
  · rw [if_pos h]
    exact ⟨by rw [show (Dat.tup [.int x.a, optD x.b, .int x.c, optD x.d]) = bxD x from rfl, t, h], sl_hi 6 x _ _ g6⟩
  · rw [if_neg h]
    show tTru _ _ _ = _
    rw [show (Dat.tup [.int x.a, optD x.b, .int x.c, optD x.d]) = bxD x from rfl, t]
    simp [fnG, rho0, fin, finV, sSeq, sIf, sRet, sRetN, sSkip, sDo, sAsg, gN, eK, eV, e1, e2, eN, as0, as1, eCall, okD, tBool, tNotX, tTru, truD, eNot, eIf, cutM_self, addD, subD, leD, ltD, gtD, geD, isN, notN, isNonD, ixD, ofO, isiG, tyNm, isiB, lenG, lenN, h]
theorem grid_cell (ss : List (Int × Option Int)) (hs : ss.length ≤ 4) (W : Int) (ρ : Rho) (μ : List Cel) (hc : Clo μ) (h5 : ρ[5]? = some (some (.d (.lst (ss.map stD))))) (h7 : ρ[7]? = some (some (.d (.int W)))) (hl : ρ.length = 10) :
    eN anyG (as1 (eLc [8, 9] (iSeq (eV 5)) (gT 2 (gsC (gN 8) (gsC (gN 9) gsN))) tTrue (eCall 3 g_is_from_to (as1 (eV 8) (as1 (eV 9) (as1 (eV 7) as0))))) as0) ρ μ = .ok (.d (.bl (ss.any fun p => inS p W))) μ := by
  have hop : ∀ b : Option Int, (match optD b with
    | .int b => some b
    | _ => none) = b := fun b => by cases b <;> rfl
  have hb : ∀ l : List Bool, bls (blsDat l) = some l := fun l => by
    induction l with
    | nil => rfl
    | cons a l ih => simp [fnG, rho0, fin, finV, sSeq, sIf, sRet, sRetN, sSkip, sDo, sAsg, gN, eK, eV, e1, e2, eN, as0, as1, eCall, okD, tBool, tNotX, tTru, truD, eNot, eIf, cutM_self, addD, subD, leD, ltD, gtD, geD, isN, notN, isNonD, ixD, ofO, isiG, tyNm, isiB, lenG, lenN, blsDat, bls] at * <;> rw [ih]
  refine eN1_ok (eLc_map hc (ds := ss.map stD) (by simp [fnG, rho0, fin, finV, sSeq, sIf, sRet, sRetN, sSkip, sDo, sAsg, gN, eK, eV, e1, e2, eN, as0, as1, eCall, okD, tBool, tNotX, tTru, truD, eNot, eIf, cutM_self, addD, subD, leD, ltD, gtD, geD, isN, notN, isNonD, ixD, ofO, isiG, tyNm, isiB, lenG, lenN, iSeq, h5, seqIt, ofS]) (by simp [fnG, rho0, fin, finV, sSeq, sIf, sRet, sRetN, sSkip, sDo, sAsg, gN, eK, eV, e1, e2, eN, as0, as1, eCall, okD, tBool, tNotX, tTru, truD, eNot, eIf, cutM_self, addD, subD, leD, ltD, gtD, geD, isN, notN, isNonD, ixD, ofO, isiG, tyNm, isiB, lenG, lenN]; exact Nat.le_trans hs (by decide)) (fun d => match d with
    | .tup [.int a, b] => .bl (inS (a, match b with
      | .int b => some b
      | _ => none) W)
    | d => d) fun d hd acc => ?_) ?_
  · obtain ⟨p, _, rfl⟩ := List.mem_map.mp hd
    refine ⟨_, _, pat2 (n := 0) _ _ _ _, ?_⟩
    simp only [stD, hop]
    exact eC3_ok (eV_ok (x := .d (.int p.1)) (by simp [fnG, rho0, fin, finV, sSeq, sIf, sRet, sRetN, sSkip, sDo, sAsg, gN, eK, eV, e1, e2, eN, as0, as1, eCall, okD, tBool, tNotX, tTru, truD, eNot, eIf, cutM_self, addD, subD, leD, ltD, gtD, geD, isN, notN, isNonD, ixD, ofO, isiG, tyNm, isiB, lenG, lenN, wipeR, hl])) (eV_ok (x := .d (optD p.2)) (by simp [fnG, rho0, fin, finV, sSeq, sIf, sRet, sRetN, sSkip, sDo, sAsg, gN, eK, eV, e1, e2, eN, as0, as1, eCall, okD, tBool, tNotX, tTru, truD, eNot, eIf, cutM_self, addD, subD, leD, ltD, gtD, geD, isN, notN, isNonD, ixD, ofO, isiG, tyNm, isiB, lenG, lenN, wipeR, hl])) (eV_ok (x := .d (.int W)) (by simp [fnG, rho0, fin, finV, sSeq, sIf, sRet, sRetN, sSkip, sDo, sAsg, gN, eK, eV, e1, e2, eN, as0, as1, eCall, okD, tBool, tNotX, tTru, truD, eNot, eIf, cutM_self, addD, subD, leD, ltD, gtD, geD, isN, notN, isNonD, ixD, ofO, isiG, tyNm, isiB, lenG, lenN, wipeR, h7])) (is_from_to_eq p W _)
  · have e : (ss.map stD).map (fun d => match d with
      | .tup [.int a, b] => .bl (inS (a, match b with
        | .int b => some b
        | _ => none) W)
      | d => d) = blsDat (ss.map fun p => inS p W) := by
      simp only [List.map_map, blsDat]
      refine List.map_congr_left fun p _ => ?_
      simp only [Function.comp, stD, hop]
    rw [e]
    simp [fnG, rho0, fin, finV, sSeq, sIf, sRet, sRetN, sSkip, sDo, sAsg, gN, eK, eV, e1, e2, eN, as0, as1, eCall, okD, tBool, tNotX, tTru, truD, eNot, eIf, cutM_self, addD, subD, leD, ltD, gtD, geD, isN, notN, isNonD, ixD, ofO, isiG, tyNm, isiB, lenG, lenN, anyG, seqs, hb, okD, List.any_map]
structure GK (bs : List Bx) (ws : List Int) (n0 : Nat) (ρ : Rho) : Prop where
  l : ρ.length = 10
  b : ρ[0]? = some (some (.d (.tup (bs.map bxD))))
  h : ρ[1]? = some (some (.d (.tup (intsDat (starts (bs.map Bx.r))))))
  w : ρ[2]? = some (some (.d (.tup (intsDat ws))))
  t : ρ[3]? = some (some (.c n0))
theorem filter_len (bs : List Bx) (hb : bs.length ≤ 4) (p : Bx → Bool) : ((bs.filter p).map Bx.q).length ≤ 4 := by
  simp only [List.length_map]
  exact Nat.le_trans (List.length_filter_le ..) hb
def gBody : SX := (sSeq (sAsg (eLc [6] (iSeq (eV 0)) (gN 6) (tTru (eCall 3 g_is_from_to (as1 (e2 ixD (eV 6) (eK (.int 0))) (as1 (e2 ixD (eV 6) (eK (.int 1))) (as1 (eV 4) as0))))) (eSl (eV 6) (oS (eK (.int 2))) oN)) (gN 5))
    (sSeq (sDo (eLm1 appendD (eV 3) (eN tupleG (as1 (eLc [7] (iSeq (eV 2)) (gN 7) tTrue (eN anyG (as1 (eLc [8, 9] (iSeq (eV 5)) (gT 2 (gsC (gN 8) (gsC (gN 9) gsN))) tTrue (eCall 3 g_is_from_to (as1 (eV 8) (as1 (eV 9) (as1 (eV 7) as0))))) as0))) as0))))
    sSkip))
theorem gBody_eq (bs : List Bx) (hb : bs.length ≤ 4) (ws : List Int) (hw : ws.length ≤ 1000) (H : Int) (ρ : Rho) (μ : List Cel) (hc : Clo μ) (k : GK bs ws μ.length ρ) (acc : List Dat) (ha : acc.length < LIM) :
    ∃ ρ', gBody (ρ.set 4 (some (.d (.int H)))) (μ ++ [.lst acc]) = .nx ρ' (μ ++ [.lst (acc ++ [rowD (ws.map fun W => cellOf bs H W)])]) ∧ GK bs ws μ.length ρ' := by
  have hc2 := hc.app acc
  have hl := k.l
  refine ⟨(ρ.set 4 (some (.d (.int H)))).set 5 (some (.d (.lst (((bs.filter fun x => inS x.r H).map Bx.q).map stD)))), ?_, ?_⟩
  · unfold gBody
    rw [st_set (grid_row bs hb H _ _ hc2 (by simp [fnG, rho0, fin, finV, sSeq, sIf, sRet, sRetN, sSkip, sDo, sAsg, gN, eK, eV, e1, e2, eN, as0, as1, eCall, okD, tBool, tNotX, tTru, truD, eNot, eIf, cutM_self, addD, subD, leD, ltD, gtD, geD, isN, notN, isNonD, ixD, ofO, isiG, tyNm, isiB, lenG, lenN, k.b]) (by simp [fnG, rho0, fin, finV, sSeq, sIf, sRet, sRetN, sSkip, sDo, sAsg, gN, eK, eV, e1, e2, eN, as0, as1, eCall, okD, tBool, tNotX, tTru, truD, eNot, eIf, cutM_self, addD, subD, leD, ltD, gtD, geD, isN, notN, isNonD, ixD, ofO, isiG, tyNm, isiB, lenG, lenN, hl]) (by simp [fnG, rho0, fin, finV, sSeq, sIf, sRet, sRetN, sSkip, sDo, sAsg, gN, eK, eV, e1, e2, eN, as0, as1, eCall, okD, tBool, tNotX, tTru, truD, eNot, eIf, cutM_self, addD, subD, leD, ltD, gtD, geD, isN, notN, isNonD, ixD, ofO, isiG, tyNm, isiB, lenG, lenN, hl]))]
    have hrow : eN tupleG (as1 (eLc [7] (iSeq (eV 2)) (gN 7) tTrue (eN anyG (as1 (eLc [8, 9] (iSeq (eV 5)) (gT 2 (gsC (gN 8) (gsC (gN 9) gsN))) tTrue (eCall 3 g_is_from_to (as1 (eV 8) (as1 (eV 9) (as1 (eV 7) as0))))) as0))) as0) ((ρ.set 4 (some (.d (.int H)))).set 5 (some (.d (.lst (((bs.filter fun x => inS x.r H).map Bx.q).map stD))))) (μ ++ [.lst acc]) =
        .ok (.d (rowD (ws.map fun W => cellOf bs H W))) (μ ++ [.lst acc]) := by
      refine eN1_ok (eLc_map hc2 (ds := intsDat ws) (by simp [fnG, rho0, fin, finV, sSeq, sIf, sRet, sRetN, sSkip, sDo, sAsg, gN, eK, eV, e1, e2, eN, as0, as1, eCall, okD, tBool, tNotX, tTru, truD, eNot, eIf, cutM_self, addD, subD, leD, ltD, gtD, geD, isN, notN, isNonD, ixD, ofO, isiG, tyNm, isiB, lenG, lenN, iSeq, k.w, seqIt, ofS]) (by simp [fnG, rho0, fin, finV, sSeq, sIf, sRet, sRetN, sSkip, sDo, sAsg, gN, eK, eV, e1, e2, eN, as0, as1, eCall, okD, tBool, tNotX, tTru, truD, eNot, eIf, cutM_self, addD, subD, leD, ltD, gtD, geD, isN, notN, isNonD, ixD, ofO, isiG, tyNm, isiB, lenG, lenN, intsDat]; exact Nat.le_trans hw (by decide)) (fun d => match d with
        | .int W => .bl (cellOf bs H W)
        | d => d) fun d hd acc2 => ?_) ?_
      · obtain ⟨W, _, rfl⟩ := List.mem_map.mp hd
        refine ⟨_, _, rfl, ?_⟩
        have z := grid_cell ((bs.filter fun x => inS x.r H).map Bx.q) (filter_len bs hb _) W ((wipeR ((ρ.set 4 (some (.d (.int H)))).set 5 (some (.d (.lst (((bs.filter fun x => inS x.r H).map Bx.q).map stD))))) [7]).set 7 (some (.d (.int W)))) _ (hc2.app acc2) (by simp [fnG, rho0, fin, finV, sSeq, sIf, sRet, sRetN, sSkip, sDo, sAsg, gN, eK, eV, e1, e2, eN, as0, as1, eCall, okD, tBool, tNotX, tTru, truD, eNot, eIf, cutM_self, addD, subD, leD, ltD, gtD, geD, isN, notN, isNonD, ixD, ofO, isiG, tyNm, isiB, lenG, lenN, wipeR, hl]) (by simp [fnG, rho0, fin, finV, sSeq, sIf, sRet, sRetN, sSkip, sDo, sAsg, gN, eK, eV, e1, e2, eN, as0, as1, eCall, okD, tBool, tNotX, tTru, truD, eNot, eIf, cutM_self, addD, subD, leD, ltD, gtD, geD, isN, notN, isNonD, ixD, ofO, isiG, tyNm, isiB, lenG, lenN, wipeR, hl]) (by simp [fnG, rho0, fin, finV, sSeq, sIf, sRet, sRetN, sSkip, sDo, sAsg, gN, eK, eV, e1, e2, eN, as0, as1, eCall, okD, tBool, tNotX, tTru, truD, eNot, eIf, cutM_self, addD, subD, leD, ltD, gtD, geD, isN, notN, isNonD, ixD, ofO, isiG, tyNm, isiB, lenG, lenN, wipeR, hl])
        rw [z]
        simp [fnG, rho0, fin, finV, sSeq, sIf, sRet, sRetN, sSkip, sDo, sAsg, gN, eK, eV, e1, e2, eN, as0, as1, eCall, okD, tBool, tNotX, tTru, truD, eNot, eIf, cutM_self, addD, subD, leD, ltD, gtD, geD, isN, notN, isNonD, ixD, ofO, isiG, tyNm, isiB, lenG, lenN, cellOf, List.any_map, Function.comp_def]
      · simp [fnG, rho0, fin, finV, sSeq, sIf, sRet, sRetN, sSkip, sDo, sAsg, gN, eK, eV, e1, e2, eN, as0, as1, eCall, okD, tBool, tNotX, tTru, truD, eNot, eIf, cutM_self, addD, subD, leD, ltD, gtD, geD, isN, notN, isNonD, ixD, ofO, isiG, tyNm, isiB, lenG, lenN, tupleG, okD, rowD, blsDat, intsDat, Function.comp_def]
    rw [st_do (v := .d .non) (μ' := μ ++ [.lst (acc ++ [rowD (ws.map fun W => cellOf bs H W)])]) (show eLm1 appendD (eV 3) _ _ _ = _ by
      unfold eLm1
      rw [eV_ok (x := .c μ.length) (by simp [fnG, rho0, fin, finV, sSeq, sIf, sRet, sRetN, sSkip, sDo, sAsg, gN, eK, eV, e1, e2, eN, as0, as1, eCall, okD, tBool, tNotX, tTru, truD, eNot, eIf, cutM_self, addD, subD, leD, ltD, gtD, geD, isN, notN, isNonD, ixD, ofO, isiG, tyNm, isiB, lenG, lenN, k.t]), bind_ok, if_pos (by simp [fnG, rho0, fin, finV, sSeq, sIf, sRet, sRetN, sSkip, sDo, sAsg, gN, eK, eV, e1, e2, eN, as0, as1, eCall, okD, tBool, tNotX, tTru, truD, eNot, eIf, cutM_self, addD, subD, leD, ltD, gtD, geD, isN, notN, isNonD, ixD, ofO, isiG, tyNm, isiB, lenG, lenN, isLstV]), hrow, bind_ok]
      simp only [appendD, get_last, if_pos ha, set_last])]
    rfl
  · exact ⟨by simp [fnG, rho0, fin, finV, sSeq, sIf, sRet, sRetN, sSkip, sDo, sAsg, gN, eK, eV, e1, e2, eN, as0, as1, eCall, okD, tBool, tNotX, tTru, truD, eNot, eIf, cutM_self, addD, subD, leD, ltD, gtD, geD, isN, notN, isNonD, ixD, ofO, isiG, tyNm, isiB, lenG, lenN, hl], by simp [fnG, rho0, fin, finV, sSeq, sIf, sRet, sRetN, sSkip, sDo, sAsg, gN, eK, eV, e1, e2, eN, as0, as1, eCall, okD, tBool, tNotX, tTru, truD, eNot, eIf, cutM_self, addD, subD, leD, ltD, gtD, geD, isN, notN, isNonD, ixD, ofO, isiG, tyNm, isiB, lenG, lenN, k.b], by simp [fnG, rho0, fin, finV, sSeq, sIf, sRet, sRetN, sSkip, sDo, sAsg, gN, eK, eV, e1, e2, eN, as0, as1, eCall, okD, tBool, tNotX, tTru, truD, eNot, eIf, cutM_self, addD, subD, leD, ltD, gtD, geD, isN, notN, isNonD, ixD, ofO, isiG, tyNm, isiB, lenG, lenN, k.h], by simp [fnG, rho0, fin, finV, sSeq, sIf, sRet, sRetN, sSkip, sDo, sAsg, gN, eK, eV, e1, e2, eN, as0, as1, eCall, okD, tBool, tNotX, tTru, truD, eNot, eIf, cutM_self, addD, subD, leD, ltD, gtD, geD, isN, notN, isNonD, ixD, ofO, isiG, tyNm, isiB, lenG, lenN, k.w], by simp [fnG, rho0, fin, finV, sSeq, sIf, sRet, sRetN, sSkip, sDo, sAsg, gN, eK, eV, e1, e2, eN, as0, as1, eCall, okD, tBool, tNotX, tTru, truD, eNot, eIf, cutM_self, addD, subD, leD, ltD, gtD, geD, isN, notN, isNonD, ixD, ofO, isiG, tyNm, isiB, lenG, lenN, k.t]⟩
theorem gLoop_eq (bs : List Bx) (hb : bs.length ≤ 4) (ws : List Int) (hw : ws.length ≤ 1000) (μ : List Cel) (hc : Clo μ) : ∀ (hs : List Int) (ρ : Rho) (acc : List Dat), acc.length + hs.length ≤ 1000 → GK bs ws μ.length ρ →
    ∃ ρ', forL (gN 4) gBody (intsDat hs) ρ (μ ++ [.lst acc]) = .nx ρ' (μ ++ [.lst (acc ++ hs.map fun H => rowD (ws.map fun W => cellOf bs H W))]) ∧ GK bs ws μ.length ρ'
  | [], ρ, acc, _, k => ⟨ρ, by simp [fnG, rho0, fin, finV, sSeq, sIf, sRet, sRetN, sSkip, sDo, sAsg, gN, eK, eV, e1, e2, eN, as0, as1, eCall, okD, tBool, tNotX, tTru, truD, eNot, eIf, cutM_self, addD, subD, leD, ltD, gtD, geD, isN, notN, isNonD, ixD, ofO, isiG, tyNm, isiB, lenG, lenN, intsDat, forL], k⟩
  | H :: hs, ρ, acc, hz, k => by
    obtain ⟨ρ1, h1, k1⟩ := gBody_eq bs hb ws hw H ρ μ hc k acc (Nat.lt_of_le_of_lt (by simp [fnG, rho0, fin, finV, sSeq, sIf, sRet, sRetN, sSkip, sDo, sAsg, gN, eK, eV, e1, e2, eN, as0, as1, eCall, okD, tBool, tNotX, tTru, truD, eNot, eIf, cutM_self, addD, subD, leD, ltD, gtD, geD, isN, notN, isNonD, ixD, ofO, isiG, tyNm, isiB, lenG, lenN] at hz; omega : acc.length ≤ 1000) (by decide))
    obtain ⟨ρ2, h2, k2⟩ := gLoop_eq bs hb ws hw μ hc hs ρ1 (acc ++ [rowD (ws.map fun W => cellOf bs H W)]) (by simp [fnG, rho0, fin, finV, sSeq, sIf, sRet, sRetN, sSkip, sDo, sAsg, gN, eK, eV, e1, e2, eN, as0, as1, eCall, okD, tBool, tNotX, tTru, truD, eNot, eIf, cutM_self, addD, subD, leD, ltD, gtD, geD, isN, notN, isNonD, ixD, ofO, isiG, tyNm, isiB, lenG, lenN] at hz ⊢; omega) k1
    refine ⟨ρ2, ?_, k2⟩
    show ((gN 4 (.d (.int H)) ρ (μ ++ [.lst acc])).bind gBody).bind (forL (gN 4) gBody (intsDat hs)) = _
    simp only [gN, sbind_nx, h1, h2]
    simp [fnG, rho0, fin, finV, sSeq, sIf, sRet, sRetN, sSkip, sDo, sAsg, gN, eK, eV, e1, e2, eN, as0, as1, eCall, okD, tBool, tNotX, tTru, truD, eNot, eIf, cutM_self, addD, subD, leD, ltD, gtD, geD, isN, notN, isNonD, ixD, ofO, isiG, tyNm, isiB, lenG, lenN]
theorem grid_of_boxes_eq (bs : List Bx) (hb : bs.length ≤ 4) (μ : List Cel) (hc : Clo μ) : g_grid_of_boxes [.d (.tup (bs.map bxD))] μ = .ok (.d (grD (gridOf bs))) μ := by
  unfold g_grid_of_boxes b_grid_of_boxes
  have hlen : ∀ f : Bx → Int × Option Int, (bs.map f).length ≤ 20 := fun f => by simp [fnG, rho0, fin, finV, sSeq, sIf, sRet, sRetN, sSkip, sDo, sAsg, gN, eK, eV, e1, e2, eN, as0, as1, eCall, okD, tBool, tNotX, tTru, truD, eNot, eIf, cutM_self, addD, subD, leD, ltD, gtD, geD, isN, notN, isNonD, ixD, ofO, isiG, tyNm, isiB, lenG, lenN]; omega
  have hst : ∀ f : Bx → Int × Option Int, (starts (bs.map f)).length ≤ 9 := fun f => by
    have := starts_len (bs.map f)
    simp only [List.length_map] at this
    omega
  have bl : (bs.map bxD).length ≤ LIM := by simp [fnG, rho0, fin, finV, sSeq, sIf, sRet, sRetN, sSkip, sDo, sAsg, gN, eK, eV, e1, e2, eN, as0, as1, eCall, okD, tBool, tNotX, tTru, truD, eNot, eIf, cutM_self, addD, subD, leD, ltD, gtD, geD, isN, notN, isNonD, ixD, ofO, isiG, tyNm, isiB, lenG, lenN]; exact Nat.le_trans hb (by decide)
  have hrow : ∀ (ρ : Rho), ρ[0]? = some (some (.d (.tup (bs.map bxD)))) → ρ.length = 10 → eCall 1 g_band_starts (as1 (eLc [6] (iSeq (eV 0)) (gN 6) tTrue (eSl (eV 6) oN (oS (eK (.int 2))))) as0) ρ μ = .ok (.d (.tup (intsDat (starts (bs.map Bx.r))))) μ := fun ρ h0 hl => by
    refine eC1_ok (eLc_map hc (ds := bs.map bxD) (by simp [fnG, rho0, fin, finV, sSeq, sIf, sRet, sRetN, sSkip, sDo, sAsg, gN, eK, eV, e1, e2, eN, as0, as1, eCall, okD, tBool, tNotX, tTru, truD, eNot, eIf, cutM_self, addD, subD, leD, ltD, gtD, geD, isN, notN, isNonD, ixD, ofO, isiG, tyNm, isiB, lenG, lenN, iSeq, h0, seqIt, ofS]) bl (fun d => match d with
      | .tup [a, b, _, _] => .tup [a, b]
      | d => d) fun d hd acc => ?_) ?_
    · obtain ⟨x, _, rfl⟩ := List.mem_map.mp hd
      exact ⟨_, _, rfl, sl_lo 6 x _ _ (by simp [fnG, rho0, fin, finV, sSeq, sIf, sRet, sRetN, sSkip, sDo, sAsg, gN, eK, eV, e1, e2, eN, as0, as1, eCall, okD, tBool, tNotX, tTru, truD, eNot, eIf, cutM_self, addD, subD, leD, ltD, gtD, geD, isN, notN, isNonD, ixD, ofO, isiG, tyNm, isiB, lenG, lenN, wipeR, hl])⟩
    · have e : (bs.map bxD).map (fun d => match d with
        | .tup [a, b, _, _] => .tup [a, b]
        | d => d) = (bs.map Bx.r).map stD := by simp [fnG, rho0, fin, finV, sSeq, sIf, sRet, sRetN, sSkip, sDo, sAsg, gN, eK, eV, e1, e2, eN, as0, as1, eCall, okD, tBool, tNotX, tTru, truD, eNot, eIf, cutM_self, addD, subD, leD, ltD, gtD, geD, isN, notN, isNonD, ixD, ofO, isiG, tyNm, isiB, lenG, lenN, bxD, stD, Bx.r, Function.comp_def]
      rw [e]
      exact band_starts_eq _ (hlen _) μ hc
  have hcol : ∀ (ρ : Rho), ρ[0]? = some (some (.d (.tup (bs.map bxD)))) → ρ.length = 10 → eCall 1 g_band_starts (as1 (eLc [6] (iSeq (eV 0)) (gN 6) tTrue (eSl (eV 6) (oS (eK (.int 2))) oN)) as0) ρ μ = .ok (.d (.tup (intsDat (starts (bs.map Bx.q))))) μ := fun ρ h0 hl => by
    refine eC1_ok (eLc_map hc (ds := bs.map bxD) (by simp [fnG, rho0, fin, finV, sSeq, sIf, sRet, sRetN, sSkip, sDo, sAsg, gN, eK, eV, e1, e2, eN, as0, as1, eCall, okD, tBool, tNotX, tTru, truD, eNot, eIf, cutM_self, addD, subD, leD, ltD, gtD, geD, isN, notN, isNonD, ixD, ofO, isiG, tyNm, isiB, lenG, lenN, iSeq, h0, seqIt, ofS]) bl (fun d => match d with
      | .tup [_, _, a, b] => .tup [a, b]
      | d => d) fun d hd acc => ?_) ?_
    · obtain ⟨x, _, rfl⟩ := List.mem_map.mp hd
      exact ⟨_, _, rfl, sl_hi 6 x _ _ (by simp [fnG, rho0, fin, finV, sSeq, sIf, sRet, sRetN, sSkip, sDo, sAsg, gN, eK, eV, e1, e2, eN, as0, as1, eCall, okD, tBool, tNotX, tTru, truD, eNot, eIf, cutM_self, addD, subD, leD, ltD, gtD, geD, isN, notN, isNonD, ixD, ofO, isiG, tyNm, isiB, lenG, lenN, wipeR, hl])⟩
    · have e : (bs.map bxD).map (fun d => match d with
        | .tup [_, _, a, b] => .tup [a, b]
        | d => d) = (bs.map Bx.q).map stD := by simp [fnG, rho0, fin, finV, sSeq, sIf, sRet, sRetN, sSkip, sDo, sAsg, gN, eK, eV, e1, e2, eN, as0, as1, eCall, okD, tBool, tNotX, tTru, truD, eNot, eIf, cutM_self, addD, subD, leD, ltD, gtD, geD, isN, notN, isNonD, ixD, ofO, isiG, tyNm, isiB, lenG, lenN, bxD, stD, Bx.q, Function.comp_def]
      rw [e]
      exact band_starts_eq _ (hlen _) μ hc
  obtain ⟨ρ', hlp, k'⟩ := gLoop_eq bs hb (starts (bs.map Bx.q)) (Nat.le_trans (hst _) (by decide)) μ hc (starts (bs.map Bx.r))
    ((((rho0 10 [.d (.tup (bs.map bxD))]).set 1 (some (.d (.tup (intsDat (starts (bs.map Bx.r))))))).set 2 (some (.d (.tup (intsDat (starts (bs.map Bx.q))))))).set 3 (some (.c μ.length))) [] (by have := hst Bx.r; simp [fnG, rho0, fin, finV, sSeq, sIf, sRet, sRetN, sSkip, sDo, sAsg, gN, eK, eV, e1, e2, eN, as0, as1, eCall, okD, tBool, tNotX, tTru, truD, eNot, eIf, cutM_self, addD, subD, leD, ltD, gtD, geD, isN, notN, isNonD, ixD, ofO, isiG, tyNm, isiB, lenG, lenN]; omega)
    ⟨by simp [fnG, rho0, fin, finV, sSeq, sIf, sRet, sRetN, sSkip, sDo, sAsg, gN, eK, eV, e1, e2, eN, as0, as1, eCall, okD, tBool, tNotX, tTru, truD, eNot, eIf, cutM_self, addD, subD, leD, ltD, gtD, geD, isN, notN, isNonD, ixD, ofO, isiG, tyNm, isiB, lenG, lenN, rho0], by simp [fnG, rho0, fin, finV, sSeq, sIf, sRet, sRetN, sSkip, sDo, sAsg, gN, eK, eV, e1, e2, eN, as0, as1, eCall, okD, tBool, tNotX, tTru, truD, eNot, eIf, cutM_self, addD, subD, leD, ltD, gtD, geD, isN, notN, isNonD, ixD, ofO, isiG, tyNm, isiB, lenG, lenN, rho0], by simp [fnG, rho0, fin, finV, sSeq, sIf, sRet, sRetN, sSkip, sDo, sAsg, gN, eK, eV, e1, e2, eN, as0, as1, eCall, okD, tBool, tNotX, tTru, truD, eNot, eIf, cutM_self, addD, subD, leD, ltD, gtD, geD, isN, notN, isNonD, ixD, ofO, isiG, tyNm, isiB, lenG, lenN, rho0], by simp [fnG, rho0, fin, finV, sSeq, sIf, sRet, sRetN, sSkip, sDo, sAsg, gN, eK, eV, e1, e2, eN, as0, as1, eCall, okD, tBool, tNotX, tTru, truD, eNot, eIf, cutM_self, addD, subD, leD, ltD, gtD, geD, isN, notN, isNonD, ixD, ofO, isiG, tyNm, isiB, lenG, lenN, rho0], by simp [fnG, rho0, fin, finV, sSeq, sIf, sRet, sRetN, sSkip, sDo, sAsg, gN, eK, eV, e1, e2, eN, as0, as1, eCall, okD, tBool, tNotX, tTru, truD, eNot, eIf, cutM_self, addD, subD, leD, ltD, gtD, geD, isN, notN, isNonD, ixD, ofO, isiG, tyNm, isiB, lenG, lenN, rho0]⟩
  have fin : (sSeq (sAsg (eCall 1 g_band_starts (as1 (eLc [6] (iSeq (eV 0)) (gN 6) tTrue (eSl (eV 6) oN (oS (eK (.int 2))))) as0)) (gN 1))
    (sSeq (sAsg (eCall 1 g_band_starts (as1 (eLc [6] (iSeq (eV 0)) (gN 6) tTrue (eSl (eV 6) (oS (eK (.int 2))) oN)) as0)) (gN 2))
    (sSeq (sAsg (eN eLstC as0) (gN 3))
    (sSeq (sFor (iSeq (eV 1)) (gN 4) gBody)
    (sSeq (sRet (eN eTupD (as1 (eV 1) (as1 (eV 2) (as1 (eN tupleG (as1 (eV 3) as0)) as0)))))
    sSkip))))) (rho0 10 [.d (.tup (bs.map bxD))]) μ = .rt (.d (grD (gridOf bs))) (μ ++ [.lst ((starts (bs.map Bx.r)).map fun H => rowD ((starts (bs.map Bx.q)).map fun W => cellOf bs H W))]) := by
    rw [st_set (hrow _ (by simp [fnG, rho0, fin, finV, sSeq, sIf, sRet, sRetN, sSkip, sDo, sAsg, gN, eK, eV, e1, e2, eN, as0, as1, eCall, okD, tBool, tNotX, tTru, truD, eNot, eIf, cutM_self, addD, subD, leD, ltD, gtD, geD, isN, notN, isNonD, ixD, ofO, isiG, tyNm, isiB, lenG, lenN, rho0]) (by simp [fnG, rho0, fin, finV, sSeq, sIf, sRet, sRetN, sSkip, sDo, sAsg, gN, eK, eV, e1, e2, eN, as0, as1, eCall, okD, tBool, tNotX, tTru, truD, eNot, eIf, cutM_self, addD, subD, leD, ltD, gtD, geD, isN, notN, isNonD, ixD, ofO, isiG, tyNm, isiB, lenG, lenN, rho0])), st_set (hcol _ (by simp [fnG, rho0, fin, finV, sSeq, sIf, sRet, sRetN, sSkip, sDo, sAsg, gN, eK, eV, e1, e2, eN, as0, as1, eCall, okD, tBool, tNotX, tTru, truD, eNot, eIf, cutM_self, addD, subD, leD, ltD, gtD, geD, isN, notN, isNonD, ixD, ofO, isiG, tyNm, isiB, lenG, lenN, rho0]) (by simp [fnG, rho0, fin, finV, sSeq, sIf, sRet, sRetN, sSkip, sDo, sAsg, gN, eK, eV, e1, e2, eN, as0, as1, eCall, okD, tBool, tNotX, tTru, truD, eNot, eIf, cutM_self, addD, subD, leD, ltD, gtD, geD, isN, notN, isNonD, ixD, ofO, isiG, tyNm, isiB, lenG, lenN, rho0])), st_set (v := .c μ.length) (μ' := μ ++ [.lst []]) (by simp [fnG, rho0, fin, finV, sSeq, sIf, sRet, sRetN, sSkip, sDo, sAsg, gN, eK, eV, e1, e2, eN, as0, as1, eCall, okD, tBool, tNotX, tTru, truD, eNot, eIf, cutM_self, addD, subD, leD, ltD, gtD, geD, isN, notN, isNonD, ixD, ofO, isiG, tyNm, isiB, lenG, lenN, eN, as0, eLstC, dats])]
    rw [st_nx (show sFor (iSeq (eV 1)) (gN 4) gBody _ _ = _ by
      unfold sFor
      rw [show iSeq (eV 1) _ (μ ++ [.lst []]) = .ok (intsDat (starts (bs.map Bx.r))) (μ ++ [.lst []]) by simp [fnG, rho0, fin, finV, sSeq, sIf, sRet, sRetN, sSkip, sDo, sAsg, gN, eK, eV, e1, e2, eN, as0, as1, eCall, okD, tBool, tNotX, tTru, truD, eNot, eIf, cutM_self, addD, subD, leD, ltD, gtD, geD, isN, notN, isNonD, ixD, ofO, isiG, tyNm, isiB, lenG, lenN, iSeq, eV, rho0, seqIt, ofS], osbind_ok]
      exact hlp)]
    refine st_ret (eN3_ok (eV_ok k'.h) (eV_ok k'.w) (eN1_ok (eV_ok k'.t) (by simp only [tupleG, get_last]; rfl)) ?_)
    simp only [eTupD, dats, Option.map_some]
    have l3 : (3 : Nat) ≤ LIM := by decide
    simp [fnG, rho0, fin, finV, sSeq, sIf, sRet, sRetN, sSkip, sDo, sAsg, gN, eK, eV, e1, e2, eN, as0, as1, eCall, okD, tBool, tNotX, tTru, truD, eNot, eIf, cutM_self, addD, subD, leD, ltD, gtD, geD, isN, notN, isNonD, ixD, ofO, isiG, tyNm, isiB, lenG, lenN, l3, okD, grD, gridOf, List.map_map, Function.comp_def]
  have z := fn_rt (frz := true) fin
  rw [cutM_app hc] at z
  exact z
theorem eqDs_bls : ∀ a b : List Bool, eqDs (blsDat a) (blsDat b) = (a == b)
  | [], [] => rfl
  | [], _ :: _ => rfl
  | _ :: _, [] => rfl
  | x :: a, y :: b => by
    show (eqD (.bl x) (.bl y) && eqDs (blsDat a) (blsDat b)) = _
    rw [eqDs_bls a b]
    rfl
theorem shals_bls : ∀ (n : Nat) (a : List Bool), shals n (blsDat a) = true
  | _, [] => rfl
  | n, x :: a => by
    show (shal n (.bl x) && shals n (blsDat a)) = true
    rw [shals_bls n a]
    cases n <;> rfl
/-- the places that differ from the one before -/
def kept (l : List (List Bool)) : List Nat := (List.range l.length).filter fun i => i == 0 || l.getD i [] != l.getD (i - 1) []
def natsDat (l : List Nat) : List Dat := l.map fun (i : Nat) => .int (i : Int)
theorem rng_nats (n : Nat) : rngD 0 n = natsDat (List.range n) := by simp [fnG, rho0, fin, finV, sSeq, sIf, sRet, sRetN, sSkip, sDo, sAsg, gN, eK, eV, e1, e2, eN, as0, as1, eCall, okD, tBool, tNotX, tTru, truD, eNot, eIf, cutM_self, addD, subD, leD, ltD, gtD, geD, isN, notN, isNonD, ixD, ofO, isiG, tyNm, isiB, lenG, lenN, rngD, natsDat]
theorem atI_nat {β : Type} (l : List β) (i : Nat) (h : i < l.length) : atI l (i : Int) = some l[i] := by
  have h2 : ¬ ((i : Int) < 0) := by omega
  simp [fnG, rho0, fin, finV, sSeq, sIf, sRet, sRetN, sSkip, sDo, sAsg, gN, eK, eV, e1, e2, eN, as0, as1, eCall, okD, tBool, tNotX, tTru, truD, eNot, eIf, cutM_self, addD, subD, leD, ltD, gtD, geD, isN, notN, isNonD, ixD, ofO, isiG, tyNm, isiB, lenG, lenN, atI, ixN, h, h2]
/-- the comprehension that keeps them; enc is how the lists lie -/
theorem kept_eq (enc : List Bool → Dat) (henc : enc = rowD ∨ enc = fun b => .lst (blsDat b)) (seq : Dat) (l : List (List Bool)) (hseq : seq = .tup (l.map enc) ∨ seq = .lst (l.map enc)) (it : IX) (k : Nat) (ρ : Rho) (μ : List Cel) (hc : Clo μ) (hl : l.length ≤ 1000) (hk : ρ[k]? = some (some (.d seq))) (k9 : k ≠ 9) (hρ : ρ.length = 11)
    (hit : it ρ μ = .ok (rngD 0 l.length) μ) :
    eLc [9] it (gN 9) (tOrX (tBool (e2 eqB (eV 9) (eK (.int 0)))) (tBool (e2 neB (e2 ixD (eV k) (eV 9)) (e2 ixD (eV k) (e2 subD (eV 9) (eK (.int 1))))))) (eV 9) ρ μ = .ok (.d (.lst (natsDat (kept l)))) μ := by
  have e : (natsDat (List.range l.length)).filterMap (fun d => match d with
      | .int i => if i.toNat == 0 || l.getD i.toNat [] != l.getD (i.toNat - 1) [] then some d else none
      | _ => none) = natsDat (kept l) := by
    unfold kept
    generalize List.range l.length = r
    induction r with
    | nil => rfl
    | cons i r ih =>
      unfold natsDat at ih ⊢
      by_cases h : (i == 0 || l.getD i [] != l.getD (i - 1) []) = true
      · rw [List.map_cons, List.filterMap_cons, List.filter_cons]
        simp only [Int.toNat_natCast, h, if_true, List.map_cons]
        rw [ih]
      · rw [List.map_cons, List.filterMap_cons, List.filter_cons]
        simp only [Int.toNat_natCast, h, if_false, Bool.false_eq_true]
        rw [ih]
  rw [← e]
  refine eLc_pure hc (by rw [hit, rng_nats]) (by simp [fnG, rho0, fin, finV, sSeq, sIf, sRet, sRetN, sSkip, sDo, sAsg, gN, eK, eV, e1, e2, eN, as0, as1, eCall, okD, tBool, tNotX, tTru, truD, eNot, eIf, cutM_self, addD, subD, leD, ltD, gtD, geD, isN, notN, isNonD, ixD, ofO, isiG, tyNm, isiB, lenG, lenN, natsDat]; exact Nat.le_trans hl (by decide)) _ fun d hd acc => ?_
  obtain ⟨i, hi, rfl⟩ := List.mem_map.mp hd
  have hi' : i < l.length := by simpa [fnG, rho0, fin, finV, sSeq, sIf, sRet, sRetN, sSkip, sDo, sAsg, gN, eK, eV, e1, e2, eN, as0, as1, eCall, okD, tBool, tNotX, tTru, truD, eNot, eIf, cutM_self, addD, subD, leD, ltD, gtD, geD, isN, notN, isNonD, ixD, ofO, isiG, tyNm, isiB, lenG, lenN] using hi
  refine ⟨_, _, rfl, ?_⟩
  have g9 : ((wipeR ρ [9]).set 9 (some (.d (.int (i : Nat)))))[9]? = some (some (.d (.int (i : Nat)))) := by simp [fnG, rho0, fin, finV, sSeq, sIf, sRet, sRetN, sSkip, sDo, sAsg, gN, eK, eV, e1, e2, eN, as0, as1, eCall, okD, tBool, tNotX, tTru, truD, eNot, eIf, cutM_self, addD, subD, leD, ltD, gtD, geD, isN, notN, isNonD, ixD, ofO, isiG, tyNm, isiB, lenG, lenN, wipeR, hρ]
  have gk : ((wipeR ρ [9]).set 9 (some (.d (.int (i : Nat)))))[k]? = some (some (.d seq)) := by
    rw [List.getElem?_set_ne (Ne.symm k9)]
    simp only [wipeR]
    rw [List.getElem?_set_ne (Ne.symm k9)]
    exact hk
  have ix : ∀ (j : Nat) (hj : j < l.length) (μ' : List Cel), ixD (.d seq) (.d (.int (j : Nat))) μ' = .ok (.d (enc l[j])) μ' := fun j hj μ' => by
    rcases hseq with rfl | rfl
    · simp only [ixD]
      rw [atI_nat _ j (by simpa [fnG, rho0, fin, finV, sSeq, sIf, sRet, sRetN, sSkip, sDo, sAsg, gN, eK, eV, e1, e2, eN, as0, as1, eCall, okD, tBool, tNotX, tTru, truD, eNot, eIf, cutM_self, addD, subD, leD, ltD, gtD, geD, isN, notN, isNonD, ixD, ofO, isiG, tyNm, isiB, lenG, lenN] using hj)]
      simp [fnG, rho0, fin, finV, sSeq, sIf, sRet, sRetN, sSkip, sDo, sAsg, gN, eK, eV, e1, e2, eN, as0, as1, eCall, okD, tBool, tNotX, tTru, truD, eNot, eIf, cutM_self, addD, subD, leD, ltD, gtD, geD, isN, notN, isNonD, ixD, ofO, isiG, tyNm, isiB, lenG, lenN, ofO, okD]
    · simp only [ixD]
      rw [atI_nat _ j (by simpa [fnG, rho0, fin, finV, sSeq, sIf, sRet, sRetN, sSkip, sDo, sAsg, gN, eK, eV, e1, e2, eN, as0, as1, eCall, okD, tBool, tNotX, tTru, truD, eNot, eIf, cutM_self, addD, subD, leD, ltD, gtD, geD, isN, notN, isNonD, ixD, ofO, isiG, tyNm, isiB, lenG, lenN] using hj)]
      simp [fnG, rho0, fin, finV, sSeq, sIf, sRet, sRetN, sSkip, sDo, sAsg, gN, eK, eV, e1, e2, eN, as0, as1, eCall, okD, tBool, tNotX, tTru, truD, eNot, eIf, cutM_self, addD, subD, leD, ltD, gtD, geD, isN, notN, isNonD, ixD, ofO, isiG, tyNm, isiB, lenG, lenN, ofO, okD]
  have ne : ∀ (a b : List Bool) (μ' : List Cel), neB (.d (enc a)) (.d (enc b)) μ' = .ok (.d (.bl (a != b))) μ' := fun a b μ' => by
    rcases henc with rfl | rfl
    · simp [fnG, rho0, fin, finV, sSeq, sIf, sRet, sRetN, sSkip, sDo, sAsg, gN, eK, eV, e1, e2, eN, as0, as1, eCall, okD, tBool, tNotX, tTru, truD, eNot, eIf, cutM_self, addD, subD, leD, ltD, gtD, geD, isN, notN, isNonD, ixD, ofO, isiG, tyNm, isiB, lenG, lenN, neB, rowD, shal, shals_bls, eqD, eqDs_bls, okD, bne]
    · simp [fnG, rho0, fin, finV, sSeq, sIf, sRet, sRetN, sSkip, sDo, sAsg, gN, eK, eV, e1, e2, eN, as0, as1, eCall, okD, tBool, tNotX, tTru, truD, eNot, eIf, cutM_self, addD, subD, leD, ltD, gtD, geD, isN, notN, isNonD, ixD, ofO, isiG, tyNm, isiB, lenG, lenN, neB, shal, shals_bls, eqD, eqDs_bls, okD, bne]
  have t : ∀ μ', tOrX (tBool (e2 eqB (eV 9) (eK (.int 0)))) (tBool (e2 neB (e2 ixD (eV k) (eV 9)) (e2 ixD (eV k) (e2 subD (eV 9) (eK (.int 1)))))) ((wipeR ρ [9]).set 9 (some (.d (.int (i : Nat))))) μ' = .ok (i == 0 || l.getD i [] != l.getD (i - 1) []) μ' := fun μ' => by
    have hz : ((i : Int) == 0) = (i == 0) := by rw [Bool.eq_iff_iff]; simp [fnG, rho0, fin, finV, sSeq, sIf, sRet, sRetN, sSkip, sDo, sAsg, gN, eK, eV, e1, e2, eN, as0, as1, eCall, okD, tBool, tNotX, tTru, truD, eNot, eIf, cutM_self, addD, subD, leD, ltD, gtD, geD, isN, notN, isNonD, ixD, ofO, isiG, tyNm, isiB, lenG, lenN]
    refine tOr_b (tB_ok (e2_ok (eV_ok g9) eK_ok (by simp [fnG, rho0, fin, finV, sSeq, sIf, sRet, sRetN, sSkip, sDo, sAsg, gN, eK, eV, e1, e2, eN, as0, as1, eCall, okD, tBool, tNotX, tTru, truD, eNot, eIf, cutM_self, addD, subD, leD, ltD, gtD, geD, isN, notN, isNonD, ixD, ofO, isiG, tyNm, isiB, lenG, lenN, eqB, shal, eqD, okD, hz]))) fun h0 => ?_
    have h1 : i ≠ 0 := by simpa [fnG, rho0, fin, finV, sSeq, sIf, sRet, sRetN, sSkip, sDo, sAsg, gN, eK, eV, e1, e2, eN, as0, as1, eCall, okD, tBool, tNotX, tTru, truD, eNot, eIf, cutM_self, addD, subD, leD, ltD, gtD, geD, isN, notN, isNonD, ixD, ofO, isiG, tyNm, isiB, lenG, lenN] using h0
    have h2 : (i : Int) - 1 = ((i - 1 : Nat) : Int) := by omega
    refine tB_ok (e2_ok (e2_ok (eV_ok gk) (eV_ok g9) (ix i hi' _)) (e2_ok (eV_ok gk) (e2_ok (r := .ok (.d (.int ((i - 1 : Nat) : Int))) μ') (eV_ok g9) eK_ok (by simp only [subD, okD, h2])) (ix (i - 1) (by omega) _)) ?_)
    rw [ne]
    simp [fnG, rho0, fin, finV, sSeq, sIf, sRet, sRetN, sSkip, sDo, sAsg, gN, eK, eV, e1, e2, eN, as0, as1, eCall, okD, tBool, tNotX, tTru, truD, eNot, eIf, cutM_self, addD, subD, leD, ltD, gtD, geD, isN, notN, isNonD, ixD, ofO, isiG, tyNm, isiB, lenG, lenN, List.getD, hi', show i - 1 < l.length by omega]
  simp only [Int.toNat_natCast]
  by_cases h : (i == 0 || l.getD i [] != l.getD (i - 1) []) = true
  · rw [if_pos h]
    exact ⟨by rw [t, h], eV_ok g9⟩
  · rw [if_neg h]
    show tOrX _ _ _ _ = _
    rw [t]
    simp only [Bool.not_eq_true] at h
    rw [h]
/-- [xs[index] for index in is] -/
theorem pick_eq (a b : Nat) (xs : List Dat) (ix : List Nat) (hi : ∀ i ∈ ix, i < xs.length) (ρ : Rho) (μ : List Cel) (hc : Clo μ) (hl : ix.length ≤ 1000) (ha : ρ[a]? = some (some (.d (.lst (natsDat ix))))) (hb : ρ[b]? = some (some (.d (.tup xs)))) (b9 : b ≠ 9) (hρ : ρ.length = 11) :
    eLc [9] (iSeq (eV a)) (gN 9) tTrue (e2 ixD (eV b) (eV 9)) ρ μ = .ok (.d (.lst (ix.map fun i => xs.getD i .non))) μ := by
  rw [eLc_map hc (ds := natsDat ix) (by simp [fnG, rho0, fin, finV, sSeq, sIf, sRet, sRetN, sSkip, sDo, sAsg, gN, eK, eV, e1, e2, eN, as0, as1, eCall, okD, tBool, tNotX, tTru, truD, eNot, eIf, cutM_self, addD, subD, leD, ltD, gtD, geD, isN, notN, isNonD, ixD, ofO, isiG, tyNm, isiB, lenG, lenN, iSeq, ha, seqIt, ofS]) (by simp [fnG, rho0, fin, finV, sSeq, sIf, sRet, sRetN, sSkip, sDo, sAsg, gN, eK, eV, e1, e2, eN, as0, as1, eCall, okD, tBool, tNotX, tTru, truD, eNot, eIf, cutM_self, addD, subD, leD, ltD, gtD, geD, isN, notN, isNonD, ixD, ofO, isiG, tyNm, isiB, lenG, lenN, natsDat]; exact Nat.le_trans hl (by decide)) (fun d => match d with
    | .int i => xs.getD i.toNat .non
    | d => d) fun d hd acc => ?_]
  · simp [fnG, rho0, fin, finV, sSeq, sIf, sRet, sRetN, sSkip, sDo, sAsg, gN, eK, eV, e1, e2, eN, as0, as1, eCall, okD, tBool, tNotX, tTru, truD, eNot, eIf, cutM_self, addD, subD, leD, ltD, gtD, geD, isN, notN, isNonD, ixD, ofO, isiG, tyNm, isiB, lenG, lenN, natsDat, Function.comp_def]
  · obtain ⟨i, hm, rfl⟩ := List.mem_map.mp hd
    have hx := hi i hm
    refine ⟨_, _, rfl, e2_ok (eV_ok (x := .d (.tup xs)) ?_) (eV_ok (x := .d (.int (i : Nat))) (by simp [fnG, rho0, fin, finV, sSeq, sIf, sRet, sRetN, sSkip, sDo, sAsg, gN, eK, eV, e1, e2, eN, as0, as1, eCall, okD, tBool, tNotX, tTru, truD, eNot, eIf, cutM_self, addD, subD, leD, ltD, gtD, geD, isN, notN, isNonD, ixD, ofO, isiG, tyNm, isiB, lenG, lenN, wipeR, hρ])) ?_⟩
    · rw [List.getElem?_set_ne (Ne.symm b9)]
      simp only [wipeR]
      rw [List.getElem?_set_ne (Ne.symm b9)]
      exact hb
    · simp only [ixD]
      rw [atI_nat _ i hx]
      simp [fnG, rho0, fin, finV, sSeq, sIf, sRet, sRetN, sSkip, sDo, sAsg, gN, eK, eV, e1, e2, eN, as0, as1, eCall, okD, tBool, tNotX, tTru, truD, eNot, eIf, cutM_self, addD, subD, leD, ltD, gtD, geD, isN, notN, isNonD, ixD, ofO, isiG, tyNm, isiB, lenG, lenN, ofO, okD, hx]
theorem rng1_nat (n : Nat) (h : n ≤ 1000) : rng1 (.d (.int (n : Nat))) = some (rngD 0 n) := by
  have hb : rngB (n : Int) := ⟨by omega, by omega⟩
  simp only [rng1, if_pos hb]
  rfl
theorem range_len (a : Nat) (xs : List Dat) (ρ : Rho) (μ : List Cel) (h : ρ[a]? = some (some (.d (.tup xs)))) (hl : xs.length ≤ 1000) : iRange1 (eN lenG (as1 (eV a) as0)) ρ μ = .ok (rngD 0 xs.length) μ := by
  unfold iRange1
  rw [eN1_ok (eV_ok h) (r := .ok (.d (.int (xs.length : Nat))) μ) (by simp only [lenG, lenN, okD]), bind_ok, rng1_nat _ hl]
  rfl
theorem lim1000 {n : Nat} (h : n ≤ 1000) : n ≤ LIM := Nat.le_trans h (by decide)
structure GrOk (g : Gr) : Prop where
  h : g.hs.length = g.t.length
  w : ∀ r ∈ g.t, r.length = g.ws.length
  a : g.t.length ≤ 1000
  b : g.ws.length ≤ 1000
def rowsOf (g : Gr) : List (List Bool) := (kept g.t).map fun i => g.t.getD i []
def colsOf (g : Gr) : List (List Bool) := (List.range g.ws.length).map fun j => (rowsOf g).map fun r => r.getD j false
def joined (g : Gr) : Gr := ⟨(kept g.t).map fun i => g.hs.getD i 0, (kept (colsOf g)).map fun j => g.ws.getD j 0, (rowsOf g).map fun r => (kept (colsOf g)).map fun j => r.getD j false⟩
theorem kept_lt {l : List (List Bool)} {i : Nat} (h : i ∈ kept l) : i < l.length := by
  have := (List.mem_filter.mp h).1
  simpa [fnG, rho0, fin, finV, sSeq, sIf, sRet, sRetN, sSkip, sDo, sAsg, gN, eK, eV, e1, e2, eN, as0, as1, eCall, okD, tBool, tNotX, tTru, truD, eNot, eIf, cutM_self, addD, subD, leD, ltD, gtD, geD, isN, notN, isNonD, ixD, ofO, isiG, tyNm, isiB, lenG, lenN] using this
theorem kept_len (l : List (List Bool)) : (kept l).length ≤ l.length := by
  unfold kept
  exact Nat.le_trans (List.length_filter_le ..) (by simp [fnG, rho0, fin, finV, sSeq, sIf, sRet, sRetN, sSkip, sDo, sAsg, gN, eK, eV, e1, e2, eN, as0, as1, eCall, okD, tBool, tNotX, tTru, truD, eNot, eIf, cutM_self, addD, subD, leD, ltD, gtD, geD, isN, notN, isNonD, ixD, ofO, isiG, tyNm, isiB, lenG, lenN])
theorem joined_grid_eq (g : Gr) (ok : GrOk g) (μ : List Cel) (hc : Clo μ) : g_joined_grid [.d (grD g)] μ = .ok (.d (grD (joined g))) μ := by
  unfold g_joined_grid b_joined_grid
  refine fn_rt0 ?_
  have hra : (rowsOf g).length ≤ 1000 := by unfold rowsOf; simp [fnG, rho0, fin, finV, sSeq, sIf, sRet, sRetN, sSkip, sDo, sAsg, gN, eK, eV, e1, e2, eN, as0, as1, eCall, okD, tBool, tNotX, tTru, truD, eNot, eIf, cutM_self, addD, subD, leD, ltD, gtD, geD, isN, notN, isNonD, ixD, ofO, isiG, tyNm, isiB, lenG, lenN]; exact Nat.le_trans (kept_len _) ok.a
  have hrow : ∀ r ∈ rowsOf g, r.length = g.ws.length := fun r hr => by
    obtain ⟨i, hi, rfl⟩ := List.mem_map.mp hr
    have hlt := kept_lt hi
    simp only [List.getD, List.getElem?_eq_getElem hlt, Option.getD_some]
    exact ok.w _ (List.getElem_mem hlt)
  have hca : (colsOf g).length = g.ws.length := by simp [fnG, rho0, fin, finV, sSeq, sIf, sRet, sRetN, sSkip, sDo, sAsg, gN, eK, eV, e1, e2, eN, as0, as1, eCall, okD, tBool, tNotX, tTru, truD, eNot, eIf, cutM_self, addD, subD, leD, ltD, gtD, geD, isN, notN, isNonD, ixD, ofO, isiG, tyNm, isiB, lenG, lenN, colsOf]
  have l3 : (3 : Nat) ≤ LIM := by decide
  generalize hρ0 : (((rho0 11 [.d (grD g)]).set 6 (some (.d (.tup (intsDat g.hs))))).set 7 (some (.d (.tup (intsDat g.ws))))).set 8 (some (.d (.tup (g.t.map rowD)))) = ρ0
  have n0 : ρ0.length = 11 := by subst hρ0; simp [fnG, rho0, fin, finV, sSeq, sIf, sRet, sRetN, sSkip, sDo, sAsg, gN, eK, eV, e1, e2, eN, as0, as1, eCall, okD, tBool, tNotX, tTru, truD, eNot, eIf, cutM_self, addD, subD, leD, ltD, gtD, geD, isN, notN, isNonD, ixD, ofO, isiG, tyNm, isiB, lenG, lenN, rho0]
  have x6 : ρ0[6]? = some (some (.d (.tup (intsDat g.hs)))) := by subst hρ0; simp [fnG, rho0, fin, finV, sSeq, sIf, sRet, sRetN, sSkip, sDo, sAsg, gN, eK, eV, e1, e2, eN, as0, as1, eCall, okD, tBool, tNotX, tTru, truD, eNot, eIf, cutM_self, addD, subD, leD, ltD, gtD, geD, isN, notN, isNonD, ixD, ofO, isiG, tyNm, isiB, lenG, lenN, rho0]
  have x7 : ρ0[7]? = some (some (.d (.tup (intsDat g.ws)))) := by subst hρ0; simp [fnG, rho0, fin, finV, sSeq, sIf, sRet, sRetN, sSkip, sDo, sAsg, gN, eK, eV, e1, e2, eN, as0, as1, eCall, okD, tBool, tNotX, tTru, truD, eNot, eIf, cutM_self, addD, subD, leD, ltD, gtD, geD, isN, notN, isNonD, ixD, ofO, isiG, tyNm, isiB, lenG, lenN, rho0]
  have x8 : ρ0[8]? = some (some (.d (.tup (g.t.map rowD)))) := by subst hρ0; simp [fnG, rho0, fin, finV, sSeq, sIf, sRet, sRetN, sSkip, sDo, sAsg, gN, eK, eV, e1, e2, eN, as0, as1, eCall, okD, tBool, tNotX, tTru, truD, eNot, eIf, cutM_self, addD, subD, leD, ltD, gtD, geD, isN, notN, isNonD, ixD, ofO, isiG, tyNm, isiB, lenG, lenN, rho0]
  rw [st_asg (v := .d (grD g)) (μ' := μ) (ρ' := ρ0) (μ2 := μ) (eV_ok (by simp [fnG, rho0, fin, finV, sSeq, sIf, sRet, sRetN, sSkip, sDo, sAsg, gN, eK, eV, e1, e2, eN, as0, as1, eCall, okD, tBool, tNotX, tTru, truD, eNot, eIf, cutM_self, addD, subD, leD, ltD, gtD, geD, isN, notN, isNonD, ixD, ofO, isiG, tyNm, isiB, lenG, lenN, rho0])) (by subst hρ0; simp [fnG, rho0, fin, finV, sSeq, sIf, sRet, sRetN, sSkip, sDo, sAsg, gN, eK, eV, e1, e2, eN, as0, as1, eCall, okD, tBool, tNotX, tTru, truD, eNot, eIf, cutM_self, addD, subD, leD, ltD, gtD, geD, isN, notN, isNonD, ixD, ofO, isiG, tyNm, isiB, lenG, lenN, grD, gT, gsC, gsN, gN])]
  rw [st_set (kept_eq rowD (.inl rfl) (.tup (g.t.map rowD)) g.t (.inl rfl) _ 8 ρ0 μ hc ok.a x8 (by decide) n0 (by
    rw [range_len 6 (intsDat g.hs) _ _ x6 (by simp [fnG, rho0, fin, finV, sSeq, sIf, sRet, sRetN, sSkip, sDo, sAsg, gN, eK, eV, e1, e2, eN, as0, as1, eCall, okD, tBool, tNotX, tTru, truD, eNot, eIf, cutM_self, addD, subD, leD, ltD, gtD, geD, isN, notN, isNonD, ixD, ofO, isiG, tyNm, isiB, lenG, lenN, intsDat, ok.h, ok.a])]
    simp [fnG, rho0, fin, finV, sSeq, sIf, sRet, sRetN, sSkip, sDo, sAsg, gN, eK, eV, e1, e2, eN, as0, as1, eCall, okD, tBool, tNotX, tTru, truD, eNot, eIf, cutM_self, addD, subD, leD, ltD, gtD, geD, isN, notN, isNonD, ixD, ofO, isiG, tyNm, isiB, lenG, lenN, intsDat, ok.h]))]
  have y : ∀ (k : Nat) (v : DV), (ρ0.set k (some v)).length = 11 := fun k v => by simp [fnG, rho0, fin, finV, sSeq, sIf, sRet, sRetN, sSkip, sDo, sAsg, gN, eK, eV, e1, e2, eN, as0, as1, eCall, okD, tBool, tNotX, tTru, truD, eNot, eIf, cutM_self, addD, subD, leD, ltD, gtD, geD, isN, notN, isNonD, ixD, ofO, isiG, tyNm, isiB, lenG, lenN, n0]
  rw [st_set (pick_eq 1 8 (g.t.map rowD) (kept g.t) (fun i hi => by simpa [fnG, rho0, fin, finV, sSeq, sIf, sRet, sRetN, sSkip, sDo, sAsg, gN, eK, eV, e1, e2, eN, as0, as1, eCall, okD, tBool, tNotX, tTru, truD, eNot, eIf, cutM_self, addD, subD, leD, ltD, gtD, geD, isN, notN, isNonD, ixD, ofO, isiG, tyNm, isiB, lenG, lenN] using kept_lt hi) _ μ hc (Nat.le_trans (kept_len _) ok.a) (by simp [fnG, rho0, fin, finV, sSeq, sIf, sRet, sRetN, sSkip, sDo, sAsg, gN, eK, eV, e1, e2, eN, as0, as1, eCall, okD, tBool, tNotX, tTru, truD, eNot, eIf, cutM_self, addD, subD, leD, ltD, gtD, geD, isN, notN, isNonD, ixD, ofO, isiG, tyNm, isiB, lenG, lenN, n0]) (by simp [fnG, rho0, fin, finV, sSeq, sIf, sRet, sRetN, sSkip, sDo, sAsg, gN, eK, eV, e1, e2, eN, as0, as1, eCall, okD, tBool, tNotX, tTru, truD, eNot, eIf, cutM_self, addD, subD, leD, ltD, gtD, geD, isN, notN, isNonD, ixD, ofO, isiG, tyNm, isiB, lenG, lenN, x8]) (by decide) (by simp [fnG, rho0, fin, finV, sSeq, sIf, sRet, sRetN, sSkip, sDo, sAsg, gN, eK, eV, e1, e2, eN, as0, as1, eCall, okD, tBool, tNotX, tTru, truD, eNot, eIf, cutM_self, addD, subD, leD, ltD, gtD, geD, isN, notN, isNonD, ixD, ofO, isiG, tyNm, isiB, lenG, lenN, n0]))]
  have r1 : ((kept g.t).map fun i => (g.t.map rowD).getD i .non) = (rowsOf g).map rowD := by
    unfold rowsOf
    rw [List.map_map]
    refine List.map_congr_left fun i hi => ?_
    have hlt := kept_lt hi
    simp [fnG, rho0, fin, finV, sSeq, sIf, sRet, sRetN, sSkip, sDo, sAsg, gN, eK, eV, e1, e2, eN, as0, as1, eCall, okD, tBool, tNotX, tTru, truD, eNot, eIf, cutM_self, addD, subD, leD, ltD, gtD, geD, isN, notN, isNonD, ixD, ofO, isiG, tyNm, isiB, lenG, lenN, List.getD, hlt]
  rw [r1]
  rw [st_set (v := .d (.lst ((colsOf g).map fun b => .lst (blsDat b)))) (μ' := μ) (by
    rw [eLc_map hc (ds := natsDat (List.range g.ws.length)) (by
      rw [range_len 7 (intsDat g.ws) _ _ (by simp [fnG, rho0, fin, finV, sSeq, sIf, sRet, sRetN, sSkip, sDo, sAsg, gN, eK, eV, e1, e2, eN, as0, as1, eCall, okD, tBool, tNotX, tTru, truD, eNot, eIf, cutM_self, addD, subD, leD, ltD, gtD, geD, isN, notN, isNonD, ixD, ofO, isiG, tyNm, isiB, lenG, lenN, x7]) (by simp [fnG, rho0, fin, finV, sSeq, sIf, sRet, sRetN, sSkip, sDo, sAsg, gN, eK, eV, e1, e2, eN, as0, as1, eCall, okD, tBool, tNotX, tTru, truD, eNot, eIf, cutM_self, addD, subD, leD, ltD, gtD, geD, isN, notN, isNonD, ixD, ofO, isiG, tyNm, isiB, lenG, lenN, intsDat, ok.b]), ← rng_nats]
      simp [fnG, rho0, fin, finV, sSeq, sIf, sRet, sRetN, sSkip, sDo, sAsg, gN, eK, eV, e1, e2, eN, as0, as1, eCall, okD, tBool, tNotX, tTru, truD, eNot, eIf, cutM_self, addD, subD, leD, ltD, gtD, geD, isN, notN, isNonD, ixD, ofO, isiG, tyNm, isiB, lenG, lenN, intsDat]) (by simp [fnG, rho0, fin, finV, sSeq, sIf, sRet, sRetN, sSkip, sDo, sAsg, gN, eK, eV, e1, e2, eN, as0, as1, eCall, okD, tBool, tNotX, tTru, truD, eNot, eIf, cutM_self, addD, subD, leD, ltD, gtD, geD, isN, notN, isNonD, ixD, ofO, isiG, tyNm, isiB, lenG, lenN, natsDat]; exact lim1000 ok.b) (fun d => match d with
      | .int j => .lst (blsDat ((rowsOf g).map fun r => r.getD j.toNat false))
      | d => d) fun d hd acc => ?_]
    · simp [fnG, rho0, fin, finV, sSeq, sIf, sRet, sRetN, sSkip, sDo, sAsg, gN, eK, eV, e1, e2, eN, as0, as1, eCall, okD, tBool, tNotX, tTru, truD, eNot, eIf, cutM_self, addD, subD, leD, ltD, gtD, geD, isN, notN, isNonD, ixD, ofO, isiG, tyNm, isiB, lenG, lenN, colsOf, natsDat, Function.comp_def]
    · obtain ⟨j, hj, rfl⟩ := List.mem_map.mp hd
      have hj' : j < g.ws.length := by simpa [fnG, rho0, fin, finV, sSeq, sIf, sRet, sRetN, sSkip, sDo, sAsg, gN, eK, eV, e1, e2, eN, as0, as1, eCall, okD, tBool, tNotX, tTru, truD, eNot, eIf, cutM_self, addD, subD, leD, ltD, gtD, geD, isN, notN, isNonD, ixD, ofO, isiG, tyNm, isiB, lenG, lenN] using hj
      refine ⟨_, _, rfl, ?_⟩
      rw [eLc_map (hc.app acc) (ds := (rowsOf g).map rowD) (by simp [fnG, rho0, fin, finV, sSeq, sIf, sRet, sRetN, sSkip, sDo, sAsg, gN, eK, eV, e1, e2, eN, as0, as1, eCall, okD, tBool, tNotX, tTru, truD, eNot, eIf, cutM_self, addD, subD, leD, ltD, gtD, geD, isN, notN, isNonD, ixD, ofO, isiG, tyNm, isiB, lenG, lenN, iSeq, eV, wipeR, n0, seqIt, ofS]) (by simp [fnG, rho0, fin, finV, sSeq, sIf, sRet, sRetN, sSkip, sDo, sAsg, gN, eK, eV, e1, e2, eN, as0, as1, eCall, okD, tBool, tNotX, tTru, truD, eNot, eIf, cutM_self, addD, subD, leD, ltD, gtD, geD, isN, notN, isNonD, ixD, ofO, isiG, tyNm, isiB, lenG, lenN]; exact lim1000 hra) (fun d => match d with
        | .tup bs => bs.getD j .non
        | d => d) fun d hd acc2 => ?_]
      · have e : ((rowsOf g).map rowD).map (fun d => match d with
          | .tup bs => bs.getD j .non
          | d => d) = blsDat ((rowsOf g).map fun r => r.getD j false) := by
          unfold blsDat
          rw [List.map_map, List.map_map]
          refine List.map_congr_left fun r hr => ?_
          have hl := hrow r hr
          simp [fnG, rho0, fin, finV, sSeq, sIf, sRet, sRetN, sSkip, sDo, sAsg, gN, eK, eV, e1, e2, eN, as0, as1, eCall, okD, tBool, tNotX, tTru, truD, eNot, eIf, cutM_self, addD, subD, leD, ltD, gtD, geD, isN, notN, isNonD, ixD, ofO, isiG, tyNm, isiB, lenG, lenN, rowD, blsDat, List.getD, hl, hj']
        rw [e]
        simp [fnG, rho0, fin, finV, sSeq, sIf, sRet, sRetN, sSkip, sDo, sAsg, gN, eK, eV, e1, e2, eN, as0, as1, eCall, okD, tBool, tNotX, tTru, truD, eNot, eIf, cutM_self, addD, subD, leD, ltD, gtD, geD, isN, notN, isNonD, ixD, ofO, isiG, tyNm, isiB, lenG, lenN]
      · obtain ⟨r, hr, rfl⟩ := List.mem_map.mp hd
        have hl := hrow r hr
        refine ⟨_, _, rfl, e2_ok (eV_ok (x := .d (rowD r)) (by simp [fnG, rho0, fin, finV, sSeq, sIf, sRet, sRetN, sSkip, sDo, sAsg, gN, eK, eV, e1, e2, eN, as0, as1, eCall, okD, tBool, tNotX, tTru, truD, eNot, eIf, cutM_self, addD, subD, leD, ltD, gtD, geD, isN, notN, isNonD, ixD, ofO, isiG, tyNm, isiB, lenG, lenN, wipeR, n0])) (eV_ok (x := .d (.int (j : Nat))) (by simp [fnG, rho0, fin, finV, sSeq, sIf, sRet, sRetN, sSkip, sDo, sAsg, gN, eK, eV, e1, e2, eN, as0, as1, eCall, okD, tBool, tNotX, tTru, truD, eNot, eIf, cutM_self, addD, subD, leD, ltD, gtD, geD, isN, notN, isNonD, ixD, ofO, isiG, tyNm, isiB, lenG, lenN, wipeR, n0])) ?_⟩
        simp only [ixD, rowD]
        rw [atI_nat _ j (by simpa [fnG, rho0, fin, finV, sSeq, sIf, sRet, sRetN, sSkip, sDo, sAsg, gN, eK, eV, e1, e2, eN, as0, as1, eCall, okD, tBool, tNotX, tTru, truD, eNot, eIf, cutM_self, addD, subD, leD, ltD, gtD, geD, isN, notN, isNonD, ixD, ofO, isiG, tyNm, isiB, lenG, lenN, blsDat, hl] using hj')]
        simp [fnG, rho0, fin, finV, sSeq, sIf, sRet, sRetN, sSkip, sDo, sAsg, gN, eK, eV, e1, e2, eN, as0, as1, eCall, okD, tBool, tNotX, tTru, truD, eNot, eIf, cutM_self, addD, subD, leD, ltD, gtD, geD, isN, notN, isNonD, ixD, ofO, isiG, tyNm, isiB, lenG, lenN, ofO, okD, blsDat, hl, hj'])]
  rw [st_set (kept_eq (fun b => .lst (blsDat b)) (.inr rfl) (.lst ((colsOf g).map fun b => .lst (blsDat b))) (colsOf g) (.inr rfl) _ 3 _ μ hc (by rw [hca]; exact ok.b) (by simp [fnG, rho0, fin, finV, sSeq, sIf, sRet, sRetN, sSkip, sDo, sAsg, gN, eK, eV, e1, e2, eN, as0, as1, eCall, okD, tBool, tNotX, tTru, truD, eNot, eIf, cutM_self, addD, subD, leD, ltD, gtD, geD, isN, notN, isNonD, ixD, ofO, isiG, tyNm, isiB, lenG, lenN, n0]) (by decide) (by simp [fnG, rho0, fin, finV, sSeq, sIf, sRet, sRetN, sSkip, sDo, sAsg, gN, eK, eV, e1, e2, eN, as0, as1, eCall, okD, tBool, tNotX, tTru, truD, eNot, eIf, cutM_self, addD, subD, leD, ltD, gtD, geD, isN, notN, isNonD, ixD, ofO, isiG, tyNm, isiB, lenG, lenN, n0]) (by
    rw [range_len 7 (intsDat g.ws) _ _ (by simp [fnG, rho0, fin, finV, sSeq, sIf, sRet, sRetN, sSkip, sDo, sAsg, gN, eK, eV, e1, e2, eN, as0, as1, eCall, okD, tBool, tNotX, tTru, truD, eNot, eIf, cutM_self, addD, subD, leD, ltD, gtD, geD, isN, notN, isNonD, ixD, ofO, isiG, tyNm, isiB, lenG, lenN, x7]) (by simp [fnG, rho0, fin, finV, sSeq, sIf, sRet, sRetN, sSkip, sDo, sAsg, gN, eK, eV, e1, e2, eN, as0, as1, eCall, okD, tBool, tNotX, tTru, truD, eNot, eIf, cutM_self, addD, subD, leD, ltD, gtD, geD, isN, notN, isNonD, ixD, ofO, isiG, tyNm, isiB, lenG, lenN, intsDat, ok.b])]
    simp [fnG, rho0, fin, finV, sSeq, sIf, sRet, sRetN, sSkip, sDo, sAsg, gN, eK, eV, e1, e2, eN, as0, as1, eCall, okD, tBool, tNotX, tTru, truD, eNot, eIf, cutM_self, addD, subD, leD, ltD, gtD, geD, isN, notN, isNonD, ixD, ofO, isiG, tyNm, isiB, lenG, lenN, intsDat, hca]))]
  have cellsR : ∀ (ρ : Rho), ρ.length = 11 → ρ[2]? = some (some (.d (.lst ((rowsOf g).map rowD)))) → ρ[4]? = some (some (.d (.lst (natsDat (kept (colsOf g)))))) →
      eN tupleG (as1 (eLc [10] (iSeq (eV 2)) (gN 10) tTrue (eN tupleG (as1 (eLc [9] (iSeq (eV 4)) (gN 9) tTrue (e2 ixD (eV 10) (eV 9))) as0))) as0) ρ μ = .ok (.d (.tup ((joined g).t.map rowD))) μ := fun ρ hl h2 h4 => by
    refine eN1_ok (eLc_map hc (ds := (rowsOf g).map rowD) (by simp [fnG, rho0, fin, finV, sSeq, sIf, sRet, sRetN, sSkip, sDo, sAsg, gN, eK, eV, e1, e2, eN, as0, as1, eCall, okD, tBool, tNotX, tTru, truD, eNot, eIf, cutM_self, addD, subD, leD, ltD, gtD, geD, isN, notN, isNonD, ixD, ofO, isiG, tyNm, isiB, lenG, lenN, iSeq, eV, h2, seqIt, ofS]) (by simp [fnG, rho0, fin, finV, sSeq, sIf, sRet, sRetN, sSkip, sDo, sAsg, gN, eK, eV, e1, e2, eN, as0, as1, eCall, okD, tBool, tNotX, tTru, truD, eNot, eIf, cutM_self, addD, subD, leD, ltD, gtD, geD, isN, notN, isNonD, ixD, ofO, isiG, tyNm, isiB, lenG, lenN]; exact lim1000 hra) (fun d => match d with
      | .tup bs => .tup ((kept (colsOf g)).map fun j => bs.getD j .non)
      | d => d) fun d hd acc => ?_) ?_
    · obtain ⟨r, hr, rfl⟩ := List.mem_map.mp hd
      have hrl := hrow r hr
      refine ⟨_, _, rfl, eN1_ok (pick_eq 4 10 (blsDat r) (kept (colsOf g)) (fun i hi => by simpa [fnG, rho0, fin, finV, sSeq, sIf, sRet, sRetN, sSkip, sDo, sAsg, gN, eK, eV, e1, e2, eN, as0, as1, eCall, okD, tBool, tNotX, tTru, truD, eNot, eIf, cutM_self, addD, subD, leD, ltD, gtD, geD, isN, notN, isNonD, ixD, ofO, isiG, tyNm, isiB, lenG, lenN, blsDat, hrl, hca] using kept_lt hi) _ _ (hc.app acc) (Nat.le_trans (kept_len _) (by rw [hca]; exact ok.b)) (by simp [fnG, rho0, fin, finV, sSeq, sIf, sRet, sRetN, sSkip, sDo, sAsg, gN, eK, eV, e1, e2, eN, as0, as1, eCall, okD, tBool, tNotX, tTru, truD, eNot, eIf, cutM_self, addD, subD, leD, ltD, gtD, geD, isN, notN, isNonD, ixD, ofO, isiG, tyNm, isiB, lenG, lenN, wipeR, h4]) (by simp [fnG, rho0, fin, finV, sSeq, sIf, sRet, sRetN, sSkip, sDo, sAsg, gN, eK, eV, e1, e2, eN, as0, as1, eCall, okD, tBool, tNotX, tTru, truD, eNot, eIf, cutM_self, addD, subD, leD, ltD, gtD, geD, isN, notN, isNonD, ixD, ofO, isiG, tyNm, isiB, lenG, lenN, wipeR, hl, rowD]) (by decide) (by simp [fnG, rho0, fin, finV, sSeq, sIf, sRet, sRetN, sSkip, sDo, sAsg, gN, eK, eV, e1, e2, eN, as0, as1, eCall, okD, tBool, tNotX, tTru, truD, eNot, eIf, cutM_self, addD, subD, leD, ltD, gtD, geD, isN, notN, isNonD, ixD, ofO, isiG, tyNm, isiB, lenG, lenN, wipeR, hl])) ?_⟩
      simp [fnG, rho0, fin, finV, sSeq, sIf, sRet, sRetN, sSkip, sDo, sAsg, gN, eK, eV, e1, e2, eN, as0, as1, eCall, okD, tBool, tNotX, tTru, truD, eNot, eIf, cutM_self, addD, subD, leD, ltD, gtD, geD, isN, notN, isNonD, ixD, ofO, isiG, tyNm, isiB, lenG, lenN, tupleG, okD, rowD]
    · have e : ((rowsOf g).map rowD).map (fun d => match d with
        | .tup bs => .tup ((kept (colsOf g)).map fun j => bs.getD j .non)
        | d => d) = (joined g).t.map rowD := by
        unfold joined
        simp only [List.map_map]
        refine List.map_congr_left fun r hr => ?_
        have hrl := hrow r hr
        simp only [Function.comp, rowD, blsDat, List.map_map]
        congr 1
        refine List.map_congr_left fun j hj => ?_
        have hlt : j < r.length := by
          have := kept_lt hj
          rw [hca] at this
          rw [hrl]; exact this
        simp [fnG, rho0, fin, finV, sSeq, sIf, sRet, sRetN, sSkip, sDo, sAsg, gN, eK, eV, e1, e2, eN, as0, as1, eCall, okD, tBool, tNotX, tTru, truD, eNot, eIf, cutM_self, addD, subD, leD, ltD, gtD, geD, isN, notN, isNonD, ixD, ofO, isiG, tyNm, isiB, lenG, lenN, List.getD, hlt]
      rw [e]
      rfl
  rw [st_set (cellsR _ (by simp [fnG, rho0, fin, finV, sSeq, sIf, sRet, sRetN, sSkip, sDo, sAsg, gN, eK, eV, e1, e2, eN, as0, as1, eCall, okD, tBool, tNotX, tTru, truD, eNot, eIf, cutM_self, addD, subD, leD, ltD, gtD, geD, isN, notN, isNonD, ixD, ofO, isiG, tyNm, isiB, lenG, lenN, n0]) (by simp [fnG, rho0, fin, finV, sSeq, sIf, sRet, sRetN, sSkip, sDo, sAsg, gN, eK, eV, e1, e2, eN, as0, as1, eCall, okD, tBool, tNotX, tTru, truD, eNot, eIf, cutM_self, addD, subD, leD, ltD, gtD, geD, isN, notN, isNonD, ixD, ofO, isiG, tyNm, isiB, lenG, lenN, n0]) (by simp [fnG, rho0, fin, finV, sSeq, sIf, sRet, sRetN, sSkip, sDo, sAsg, gN, eK, eV, e1, e2, eN, as0, as1, eCall, okD, tBool, tNotX, tTru, truD, eNot, eIf, cutM_self, addD, subD, leD, ltD, gtD, geD, isN, notN, isNonD, ixD, ofO, isiG, tyNm, isiB, lenG, lenN, n0]))]
  refine st_ret (eN3_ok (eN1_ok (pick_eq 1 6 (intsDat g.hs) (kept g.t) (fun i hi => by simpa [fnG, rho0, fin, finV, sSeq, sIf, sRet, sRetN, sSkip, sDo, sAsg, gN, eK, eV, e1, e2, eN, as0, as1, eCall, okD, tBool, tNotX, tTru, truD, eNot, eIf, cutM_self, addD, subD, leD, ltD, gtD, geD, isN, notN, isNonD, ixD, ofO, isiG, tyNm, isiB, lenG, lenN, intsDat, ok.h] using kept_lt hi) _ μ hc (Nat.le_trans (kept_len _) ok.a) (by simp [fnG, rho0, fin, finV, sSeq, sIf, sRet, sRetN, sSkip, sDo, sAsg, gN, eK, eV, e1, e2, eN, as0, as1, eCall, okD, tBool, tNotX, tTru, truD, eNot, eIf, cutM_self, addD, subD, leD, ltD, gtD, geD, isN, notN, isNonD, ixD, ofO, isiG, tyNm, isiB, lenG, lenN, n0]) (by simp [fnG, rho0, fin, finV, sSeq, sIf, sRet, sRetN, sSkip, sDo, sAsg, gN, eK, eV, e1, e2, eN, as0, as1, eCall, okD, tBool, tNotX, tTru, truD, eNot, eIf, cutM_self, addD, subD, leD, ltD, gtD, geD, isN, notN, isNonD, ixD, ofO, isiG, tyNm, isiB, lenG, lenN, x6]) (by decide) (by simp [fnG, rho0, fin, finV, sSeq, sIf, sRet, sRetN, sSkip, sDo, sAsg, gN, eK, eV, e1, e2, eN, as0, as1, eCall, okD, tBool, tNotX, tTru, truD, eNot, eIf, cutM_self, addD, subD, leD, ltD, gtD, geD, isN, notN, isNonD, ixD, ofO, isiG, tyNm, isiB, lenG, lenN, n0])) (r := .ok (.d (.tup (intsDat (joined g).hs))) μ) ?_)
    (eN1_ok (pick_eq 4 7 (intsDat g.ws) (kept (colsOf g)) (fun i hi => by simpa [fnG, rho0, fin, finV, sSeq, sIf, sRet, sRetN, sSkip, sDo, sAsg, gN, eK, eV, e1, e2, eN, as0, as1, eCall, okD, tBool, tNotX, tTru, truD, eNot, eIf, cutM_self, addD, subD, leD, ltD, gtD, geD, isN, notN, isNonD, ixD, ofO, isiG, tyNm, isiB, lenG, lenN, intsDat, hca] using kept_lt hi) _ μ hc (Nat.le_trans (kept_len _) (by rw [hca]; exact ok.b)) (by simp [fnG, rho0, fin, finV, sSeq, sIf, sRet, sRetN, sSkip, sDo, sAsg, gN, eK, eV, e1, e2, eN, as0, as1, eCall, okD, tBool, tNotX, tTru, truD, eNot, eIf, cutM_self, addD, subD, leD, ltD, gtD, geD, isN, notN, isNonD, ixD, ofO, isiG, tyNm, isiB, lenG, lenN, n0]) (by simp [fnG, rho0, fin, finV, sSeq, sIf, sRet, sRetN, sSkip, sDo, sAsg, gN, eK, eV, e1, e2, eN, as0, as1, eCall, okD, tBool, tNotX, tTru, truD, eNot, eIf, cutM_self, addD, subD, leD, ltD, gtD, geD, isN, notN, isNonD, ixD, ofO, isiG, tyNm, isiB, lenG, lenN, x7]) (by decide) (by simp [fnG, rho0, fin, finV, sSeq, sIf, sRet, sRetN, sSkip, sDo, sAsg, gN, eK, eV, e1, e2, eN, as0, as1, eCall, okD, tBool, tNotX, tTru, truD, eNot, eIf, cutM_self, addD, subD, leD, ltD, gtD, geD, isN, notN, isNonD, ixD, ofO, isiG, tyNm, isiB, lenG, lenN, n0])) (r := .ok (.d (.tup (intsDat (joined g).ws))) μ) ?_)
    (eV_ok (x := .d (.tup ((joined g).t.map rowD))) (by simp [fnG, rho0, fin, finV, sSeq, sIf, sRet, sRetN, sSkip, sDo, sAsg, gN, eK, eV, e1, e2, eN, as0, as1, eCall, okD, tBool, tNotX, tTru, truD, eNot, eIf, cutM_self, addD, subD, leD, ltD, gtD, geD, isN, notN, isNonD, ixD, ofO, isiG, tyNm, isiB, lenG, lenN, n0])) ?_)
  · simp only [tupleG, okD, joined, intsDat, List.map_map]
    congr 3
    refine List.map_congr_left fun i hi => ?_
    have hlt : i < g.hs.length := by rw [ok.h]; exact kept_lt hi
    simp [fnG, rho0, fin, finV, sSeq, sIf, sRet, sRetN, sSkip, sDo, sAsg, gN, eK, eV, e1, e2, eN, as0, as1, eCall, okD, tBool, tNotX, tTru, truD, eNot, eIf, cutM_self, addD, subD, leD, ltD, gtD, geD, isN, notN, isNonD, ixD, ofO, isiG, tyNm, isiB, lenG, lenN, List.getD, hlt]
  · simp only [tupleG, okD, joined, intsDat, List.map_map]
    congr 3
    refine List.map_congr_left fun i hi => ?_
    have hlt : i < g.ws.length := by rw [← hca]; exact kept_lt hi
    simp [fnG, rho0, fin, finV, sSeq, sIf, sRet, sRetN, sSkip, sDo, sAsg, gN, eK, eV, e1, e2, eN, as0, as1, eCall, okD, tBool, tNotX, tTru, truD, eNot, eIf, cutM_self, addD, subD, leD, ltD, gtD, geD, isN, notN, isNonD, ixD, ofO, isiG, tyNm, isiB, lenG, lenN, List.getD, hlt]
  · simp only [eTupD, dats, Option.map_some]
    simp [fnG, rho0, fin, finV, sSeq, sIf, sRet, sRetN, sSkip, sDo, sAsg, gN, eK, eV, e1, e2, eN, as0, as1, eCall, okD, tBool, tNotX, tTru, truD, eNot, eIf, cutM_self, addD, subD, leD, ltD, gtD, geD, isN, notN, isNonD, ixD, ofO, isiG, tyNm, isiB, lenG, lenN, l3, okD, grD]
theorem clo_ins {μ : List Cel} (h : Clo μ) (c : Nat) (fs : List (Nat × Dat)) : Clo (μ ++ [.ins c (fs.map fun p => (p.1, .d p.2))]) := by
  unfold Clo at h ⊢
  rw [List.all_append, Bool.and_eq_true]
  refine ⟨List.all_eq_true.mpr fun c hc => celLt_le (by simp [fnG, rho0, fin, finV, sSeq, sIf, sRet, sRetN, sSkip, sDo, sAsg, gN, eK, eV, e1, e2, eN, as0, as1, eCall, okD, tBool, tNotX, tTru, truD, eNot, eIf, cutM_self, addD, subD, leD, ltD, gtD, geD, isN, notN, isNonD, ixD, ofO, isiG, tyNm, isiB, lenG, lenN]) c (List.all_eq_true.mp h c hc), ?_⟩
  have : ∀ (n : Nat) (fs : List (Nat × Dat)), refsLt n (fs.map fun p => (p.1, .d p.2)) = true := fun n fs => by
    induction fs with
    | nil => rfl
    | cons p fs ih => simpa [fnG, rho0, fin, finV, sSeq, sIf, sRet, sRetN, sSkip, sDo, sAsg, gN, eK, eV, e1, e2, eN, as0, as1, eCall, okD, tBool, tNotX, tTru, truD, eNot, eIf, cutM_self, addD, subD, leD, ltD, gtD, geD, isN, notN, isNonD, ixD, ofO, isiG, tyNm, isiB, lenG, lenN, refsLt] using ih
  simp [fnG, rho0, fin, finV, sSeq, sIf, sRet, sRetN, sSkip, sDo, sAsg, gN, eK, eV, e1, e2, eN, as0, as1, eCall, okD, tBool, tNotX, tTru, truD, eNot, eIf, cutM_self, addD, subD, leD, ltD, gtD, geD, isN, notN, isNonD, ixD, ofO, isiG, tyNm, isiB, lenG, lenN, celLt, this]
def szD (bs : List Bx) : Dat := .ins 23 [(11, grD (joined (gridOf bs)))]
theorem gridOf_ok (bs : List Bx) (hb : bs.length ≤ 4) : GrOk (gridOf bs) := by
  have hst : ∀ f : Bx → Int × Option Int, (starts (bs.map f)).length ≤ 9 := fun f => by
    have := starts_len (bs.map f)
    simp only [List.length_map] at this
    omega
  refine ⟨by simp [fnG, rho0, fin, finV, sSeq, sIf, sRet, sRetN, sSkip, sDo, sAsg, gN, eK, eV, e1, e2, eN, as0, as1, eCall, okD, tBool, tNotX, tTru, truD, eNot, eIf, cutM_self, addD, subD, leD, ltD, gtD, geD, isN, notN, isNonD, ixD, ofO, isiG, tyNm, isiB, lenG, lenN, gridOf], fun r hr => ?_, ?_, ?_⟩
  · obtain ⟨H, _, rfl⟩ := List.mem_map.mp hr
    simp [fnG, rho0, fin, finV, sSeq, sIf, sRet, sRetN, sSkip, sDo, sAsg, gN, eK, eV, e1, e2, eN, as0, as1, eCall, okD, tBool, tNotX, tTru, truD, eNot, eIf, cutM_self, addD, subD, leD, ltD, gtD, geD, isN, notN, isNonD, ixD, ofO, isiG, tyNm, isiB, lenG, lenN, gridOf]
  · have := hst Bx.r
    simp [fnG, rho0, fin, finV, sSeq, sIf, sRet, sRetN, sSkip, sDo, sAsg, gN, eK, eV, e1, e2, eN, as0, as1, eCall, okD, tBool, tNotX, tTru, truD, eNot, eIf, cutM_self, addD, subD, leD, ltD, gtD, geD, isN, notN, isNonD, ixD, ofO, isiG, tyNm, isiB, lenG, lenN, gridOf]; omega
  · have := hst Bx.q
    simp [fnG, rho0, fin, finV, sSeq, sIf, sRet, sRetN, sSkip, sDo, sAsg, gN, eK, eV, e1, e2, eN, as0, as1, eCall, okD, tBool, tNotX, tTru, truD, eNot, eIf, cutM_self, addD, subD, leD, ltD, gtD, geD, isN, notN, isNonD, ixD, ofO, isiG, tyNm, isiB, lenG, lenN, gridOf]; omega
structure IK (bs : List Bx) (n0 : Nat) (ρ : Rho) : Prop where
  l : ρ.length = 5
  s : ρ[0]? = some (some (.c n0))
  g : ρ[1]? = some (some (.d .non))
  b : ρ[2]? = some (some (.d (.tup (bs.map bxD))))
theorem init_loop (bs : List Bx) (n0 : Nat) (μ : List Cel) : ∀ (cs : List Bx) (k : Nat) (ρ : Rho), (∀ x ∈ cs, okBx x) → IK bs n0 ρ →
    ∃ ρ', forL (gT 2 (gsC (gN 3) (gsC (gN 4) gsN))) (sSeq (sIf (tNotX (tTru (eCall 1 g_is_box (as1 (eV 4) as0)))) (sSeq sNever sSkip) sSkip) sSkip) (enumD k (cs.map bxD)) ρ μ = .nx ρ' μ ∧ IK bs n0 ρ'
  | [], k, ρ, _, i => ⟨ρ, by simp [fnG, rho0, fin, finV, sSeq, sIf, sRet, sRetN, sSkip, sDo, sAsg, gN, eK, eV, e1, e2, eN, as0, as1, eCall, okD, tBool, tNotX, tTru, truD, eNot, eIf, cutM_self, addD, subD, leD, ltD, gtD, geD, isN, notN, isNonD, ixD, ofO, isiG, tyNm, isiB, lenG, lenN, enumD, forL], i⟩
  | x :: cs, k, ρ, h, i => by
    obtain ⟨ρ', h1, i'⟩ := init_loop bs n0 μ cs (k + 1) ((ρ.set 3 (some (.d (.int (k : Nat))))).set 4 (some (.d (bxD x)))) (fun y hy => h y (by simp [fnG, rho0, fin, finV, sSeq, sIf, sRet, sRetN, sSkip, sDo, sAsg, gN, eK, eV, e1, e2, eN, as0, as1, eCall, okD, tBool, tNotX, tTru, truD, eNot, eIf, cutM_self, addD, subD, leD, ltD, gtD, geD, isN, notN, isNonD, ixD, ofO, isiG, tyNm, isiB, lenG, lenN, hy])) ⟨by simp [fnG, rho0, fin, finV, sSeq, sIf, sRet, sRetN, sSkip, sDo, sAsg, gN, eK, eV, e1, e2, eN, as0, as1, eCall, okD, tBool, tNotX, tTru, truD, eNot, eIf, cutM_self, addD, subD, leD, ltD, gtD, geD, isN, notN, isNonD, ixD, ofO, isiG, tyNm, isiB, lenG, lenN, i.l], by simp [fnG, rho0, fin, finV, sSeq, sIf, sRet, sRetN, sSkip, sDo, sAsg, gN, eK, eV, e1, e2, eN, as0, as1, eCall, okD, tBool, tNotX, tTru, truD, eNot, eIf, cutM_self, addD, subD, leD, ltD, gtD, geD, isN, notN, isNonD, ixD, ofO, isiG, tyNm, isiB, lenG, lenN, i.s], by simp [fnG, rho0, fin, finV, sSeq, sIf, sRet, sRetN, sSkip, sDo, sAsg, gN, eK, eV, e1, e2, eN, as0, as1, eCall, okD, tBool, tNotX, tTru, truD, eNot, eIf, cutM_self, addD, subD, leD, ltD, gtD, geD, isN, notN, isNonD, ixD, ofO, isiG, tyNm, isiB, lenG, lenN, i.g], by simp [fnG, rho0, fin, finV, sSeq, sIf, sRet, sRetN, sSkip, sDo, sAsg, gN, eK, eV, e1, e2, eN, as0, as1, eCall, okD, tBool, tNotX, tTru, truD, eNot, eIf, cutM_self, addD, subD, leD, ltD, gtD, geD, isN, notN, isNonD, ixD, ofO, isiG, tyNm, isiB, lenG, lenN, i.b]⟩
    refine ⟨ρ', ?_, i'⟩
    show (((gT 2 (gsC (gN 3) (gsC (gN 4) gsN))) (.d (.tup [.int (k : Nat), bxD x])) ρ μ).bind _).bind _ = _
    rw [pat2 (n := 0), sbind_nx, st_iff (tN_ok (v := true) (tT_ok (eC1_ok (eV_ok (x := .d (bxD x)) (by simp [fnG, rho0, fin, finV, sSeq, sIf, sRet, sRetN, sSkip, sDo, sAsg, gN, eK, eV, e1, e2, eN, as0, as1, eCall, okD, tBool, tNotX, tTru, truD, eNot, eIf, cutM_self, addD, subD, leD, ltD, gtD, geD, isN, notN, isNonD, ixD, ofO, isiG, tyNm, isiB, lenG, lenN, i.l])) (is_box_eq x (h x (by simp [fnG, rho0, fin, finV, sSeq, sIf, sRet, sRetN, sSkip, sDo, sAsg, gN, eK, eV, e1, e2, eN, as0, as1, eCall, okD, tBool, tNotX, tTru, truD, eNot, eIf, cutM_self, addD, subD, leD, ltD, gtD, geD, isN, notN, isNonD, ixD, ofO, isiG, tyNm, isiB, lenG, lenN])) μ))))]
    rw [st_skip, sbind_nx]
    exact h1
theorem init_eq (bs : List Bx) (hb : bs.length ≤ 4) (ho : ∀ x ∈ bs, okBx x) (μ : List Cel) (hc : Clo μ) :
    fnG true 5 b_Sizes_init [.c μ.length, .d .non, .d (.tup (bs.map bxD))] (μ ++ [.ins 23 []]) = .ok (.d .non) (μ ++ [.ins 23 [(11, .d (grD (joined (gridOf bs))))]]) := by
  have hc2 : Clo (μ ++ [.ins 23 []]) := clo_ins hc 23 []
  obtain ⟨ρ', h1, i⟩ := init_loop bs μ.length (μ ++ [.ins 23 []]) bs 0 (rho0 5 [.c μ.length, .d .non, .d (.tup (bs.map bxD))]) ho ⟨by simp [fnG, rho0, fin, finV, sSeq, sIf, sRet, sRetN, sSkip, sDo, sAsg, gN, eK, eV, e1, e2, eN, as0, as1, eCall, okD, tBool, tNotX, tTru, truD, eNot, eIf, cutM_self, addD, subD, leD, ltD, gtD, geD, isN, notN, isNonD, ixD, ofO, isiG, tyNm, isiB, lenG, lenN, rho0], by simp [fnG, rho0, fin, finV, sSeq, sIf, sRet, sRetN, sSkip, sDo, sAsg, gN, eK, eV, e1, e2, eN, as0, as1, eCall, okD, tBool, tNotX, tTru, truD, eNot, eIf, cutM_self, addD, subD, leD, ltD, gtD, geD, isN, notN, isNonD, ixD, ofO, isiG, tyNm, isiB, lenG, lenN, rho0], by simp [fnG, rho0, fin, finV, sSeq, sIf, sRet, sRetN, sSkip, sDo, sAsg, gN, eK, eV, e1, e2, eN, as0, as1, eCall, okD, tBool, tNotX, tTru, truD, eNot, eIf, cutM_self, addD, subD, leD, ltD, gtD, geD, isN, notN, isNonD, ixD, ofO, isiG, tyNm, isiB, lenG, lenN, rho0], by simp [fnG, rho0, fin, finV, sSeq, sIf, sRet, sRetN, sSkip, sDo, sAsg, gN, eK, eV, e1, e2, eN, as0, as1, eCall, okD, tBool, tNotX, tTru, truD, eNot, eIf, cutM_self, addD, subD, leD, ltD, gtD, geD, isN, notN, isNonD, ixD, ofO, isiG, tyNm, isiB, lenG, lenN, rho0]⟩
  have hb2 : b_Sizes_init (rho0 5 [.c μ.length, .d .non, .d (.tup (bs.map bxD))]) (μ ++ [.ins 23 []]) = .nx ρ' (μ ++ [.ins 23 [(11, .d (grD (joined (gridOf bs))))]]) := by
    unfold b_Sizes_init
    rw [st_nx (ρ' := ρ') (μ' := μ ++ [.ins 23 []]) (by
      unfold sFor
      rw [show iEnumX (eV 2) (rho0 5 [.c μ.length, .d .non, .d (.tup (bs.map bxD))]) (μ ++ [.ins 23 []]) = .ok (enumD 0 (bs.map bxD)) (μ ++ [.ins 23 []]) by simp [fnG, rho0, fin, finV, sSeq, sIf, sRet, sRetN, sSkip, sDo, sAsg, gN, eK, eV, e1, e2, eN, as0, as1, eCall, okD, tBool, tNotX, tTru, truD, eNot, eIf, cutM_self, addD, subD, leD, ltD, gtD, geD, isN, notN, isNonD, ixD, ofO, isiG, tyNm, isiB, lenG, lenN, iEnumX, eV, rho0, tupIt, ofS], osbind_ok]
      exact h1)]
    rw [st_nx (ρ' := ρ') (μ' := μ ++ [.ins 23 [(11, .d (grD (joined (gridOf bs))))]]) (by
      unfold sFldS
      rw [eIf1 (r := .ok (.d (grD (joined (gridOf bs)))) (μ ++ [.ins 23 []])) (tB_ok (e2_ok (eV_ok i.g) eK_ok (by simp [fnG, rho0, fin, finV, sSeq, sIf, sRet, sRetN, sSkip, sDo, sAsg, gN, eK, eV, e1, e2, eN, as0, as1, eCall, okD, tBool, tNotX, tTru, truD, eNot, eIf, cutM_self, addD, subD, leD, ltD, gtD, geD, isN, notN, isNonD, ixD, ofO, isiG, tyNm, isiB, lenG, lenN, isN, isNonD, okD]))) (eC1_ok (eC1_ok (eV_ok i.b) (grid_of_boxes_eq bs hb _ hc2)) (joined_grid_eq _ (gridOf_ok bs hb) _ hc2)), osbind_ok, eV_ok i.s, osbind_ok]
      simp [fnG, rho0, fin, finV, sSeq, sIf, sRet, sRetN, sSkip, sDo, sAsg, gN, eK, eV, e1, e2, eN, as0, as1, eCall, okD, tBool, tNotX, tTru, truD, eNot, eIf, cutM_self, addD, subD, leD, ltD, gtD, geD, isN, notN, isNonD, ixD, ofO, isiG, tyNm, isiB, lenG, lenN, setFld, putN])]
    rfl
  unfold fnG
  rw [hb2]
  simp only [fin]
  rw [cutM_of]
  simp [fnG, rho0, fin, finV, sSeq, sIf, sRet, sRetN, sSkip, sDo, sAsg, gN, eK, eV, e1, e2, eN, as0, as1, eCall, okD, tBool, tNotX, tTru, truD, eNot, eIf, cutM_self, addD, subD, leD, ltD, gtD, geD, isN, notN, isNonD, ixD, ofO, isiG, tyNm, isiB, lenG, lenN]
theorem mk_eq (bs : List Bx) (hb : bs.length ≤ 4) (ho : ∀ x ∈ bs, okBx x) (μ : List Cel) (hc : Clo μ) (g : Gn) (ds : List DV) (hg : ∀ self μ', g (self :: ds) μ' = fnG true 5 b_Sizes_init [self, .d .non, .d (.tup (bs.map bxD))] μ') :
    mkG true 23 g ds μ = .ok (.d (szD bs)) μ := by
  unfold mkG
  rw [hg, init_eq bs hb ho μ hc, bind_ok]
  simp [fnG, rho0, fin, finV, sSeq, sIf, sRet, sRetN, sSkip, sDo, sAsg, gN, eK, eV, e1, e2, eN, as0, as1, eCall, okD, tBool, tNotX, tTru, truD, eNot, eIf, cutM_self, addD, subD, leD, ltD, gtD, geD, isN, notN, isNonD, ixD, ofO, isiG, tyNm, isiB, lenG, lenN, nonV, finV, datF, cutM_app hc, szD]
theorem init2 (x : Bx) (self : DV) (μ : List Cel) : g_Sizes_init_2 [self, .d (bxD x)] μ = fnG true 5 b_Sizes_init [self, .d .non, .d (.tup ([x].map bxD))] μ := by
  have l1 : (1 : Nat) ≤ LIM := by decide
  simp [rho0, fin, finV, sSeq, sIf, sRet, sRetN, sSkip, sDo, sAsg, gN, eK, eV, e1, e2, eN, as0, as1, eCall, okD, tBool, tNotX, tTru, truD, eNot, eIf, cutM_self, addD, subD, leD, ltD, gtD, geD, isN, notN, isNonD, ixD, ofO, isiG, tyNm, isiB, lenG, lenN, g_Sizes_init_2, starG, rD_Sizes_init_2, aD_Sizes_init_2, dats, l1]
def insG (g : Gr) : Dat := .ins 23 [(11, grD g)]
def memG (g : Gr) (h w : Int) : Bool := (g.t.getD (cnt g.hs h - 1) []).getD (cnt g.ws w - 1) false
end DL.K05
set_option linter.all false
set_option maxRecDepth 100000
set_option maxHeartbeats 4000000
namespace DL.K05
open PySem PySem.Spec PyProof.Rows L2 DL
theorem asc_cnt (n : Int) : ∀ (st : List Int), st.Pairwise (· < ·) → ∀ (i : Nat) (h : i < st.length), (st[i] ≤ n ↔ i < cnt st n)
  | [], _, i, h => by simp at h
  | s :: st, hp, i, h => by
    obtain ⟨h1, h2⟩ := List.pairwise_cons.mp hp
    have ih := asc_cnt n st h2
    by_cases hs : s ≤ n
    · have e : cnt (s :: st) n = cnt st n + 1 := by simp [cnt, hs]
      cases i with
      | zero => simp [e, hs]
      | succ i =>
        have := ih i (by simpa using h)
        simp only [List.getElem_cons_succ, e]
        omega
    · have e : cnt (s :: st) n = 0 := by
        unfold cnt
        rw [List.length_eq_zero_iff, List.filter_eq_nil_iff]
        intro x hx
        rcases List.mem_cons.mp hx with rfl | hx
        · simpa using hs
        · have := h1 x hx
          simp only [decide_eq_true_eq]
          omega
      rw [e]
      cases i with
      | zero => simpa using hs
      | succ i =>
        have hi : i < st.length := by simpa using h
        have := h1 _ (List.getElem_mem hi)
        simp only [List.getElem_cons_succ]
        omega
theorem cnt_le (st : List Int) (n : Int) : cnt st n ≤ st.length := List.length_filter_le ..
theorem mem_starts {l : List (Int × Option Int)} {k : Int} : k ∈ starts l ↔ k = 1 ∨ (∃ p ∈ l, k = p.1) ∨ ∃ p ∈ l, ∃ b, p.2 = some b ∧ k = b + 1 := by
  unfold starts
  rw [sSet_mem]
  simp only [behind, List.cons_append, List.mem_cons, List.mem_append, List.mem_map, List.mem_filterMap, Option.map_eq_some_iff]
  constructor
  · rintro (h | ⟨p, hp, rfl⟩ | ⟨p, hp, b, hb, rfl⟩)
    · exact .inl h
    · exact .inr (.inl ⟨p, hp, rfl⟩)
    · exact .inr (.inr ⟨p, hp, b, hb, rfl⟩)
  · rintro (h | ⟨p, hp, rfl⟩ | ⟨p, hp, b, hb, rfl⟩)
    · exact .inl h
    · exact .inr (.inl ⟨p, hp, rfl⟩)
    · exact .inr (.inr ⟨p, hp, b, hb, rfl⟩)
/-- the band that n lies in -/
theorem band_spec (l : List (Int × Option Int)) (n : Int) (hn : 1 ≤ n) : 1 ≤ cnt (starts l) n ∧ ∃ h : cnt (starts l) n - 1 < (starts l).length, ∀ p ∈ l, inS p (starts l)[cnt (starts l) n - 1] = inS p n := by
  have asc : (starts l).Pairwise (· < ·) := sSet_asc _
  have idx : ∀ k ∈ starts l, k ≤ n → ∃ i, ∃ h : i < (starts l).length, (starts l)[i] = k ∧ i < cnt (starts l) n := fun k hk hkn => by
    obtain ⟨i, hi, e⟩ := List.getElem_of_mem hk
    exact ⟨i, hi, e, (asc_cnt n _ asc i hi).mp (by rw [e]; exact hkn)⟩
  obtain ⟨i0, hi0, e0, c0⟩ := idx 1 (mem_starts.mpr (.inl rfl)) hn
  have hc := cnt_le (starts l) n
  have hlt : cnt (starts l) n - 1 < (starts l).length := by omega
  have hle : (starts l)[cnt (starts l) n - 1] ≤ n := (asc_cnt n _ asc _ hlt).mpr (by omega)
  have hmax : ∀ k ∈ starts l, k ≤ n → k ≤ (starts l)[cnt (starts l) n - 1] := fun k hk hkn => by
    obtain ⟨i, hi, e, ci⟩ := idx k hk hkn
    rw [← e]
    rcases Nat.lt_or_ge i (cnt (starts l) n - 1) with h | h
    · exact Int.le_of_lt (List.pairwise_iff_getElem.mp asc i _ hi hlt h)
    · have : i = cnt (starts l) n - 1 := by omega
      subst this
      exact Int.le_refl _
  refine ⟨by omega, hlt, fun p hp => ?_⟩
  have h1 : (p.1 ≤ (starts l)[cnt (starts l) n - 1]) ↔ p.1 ≤ n := ⟨fun h => Int.le_trans h hle, fun h => hmax _ (mem_starts.mpr (.inr (.inl ⟨p, hp, rfl⟩))) h⟩
  unfold inS
  cases hb : p.2 with
  | none => simp [h1]
  | some b =>
    have h2 : ((starts l)[cnt (starts l) n - 1] ≤ b) ↔ n ≤ b := ⟨fun h => by
      rcases Int.lt_or_le b n with hlt2 | hge
      · have := hmax (b + 1) (mem_starts.mpr (.inr (.inr ⟨p, hp, b, hb, rfl⟩))) (by omega)
        omega
      · exact hge, fun h => Int.le_trans hle h⟩
    simp [h1, h2]
def keepP (l : List (List Bool)) (i : Nat) : Bool := i == 0 || l.getD i [] != l.getD (i - 1) []
theorem kept_last (l : List (List Bool)) : ∀ i : Nat, ∃ k, ((List.range (i + 1)).filter (keepP l)).getLast? = some k ∧ l.getD k [] = l.getD i []
  | 0 => ⟨0, by simp [keepP, List.range_succ], rfl⟩
  | i + 1 => by
    obtain ⟨k, h1, h2⟩ := kept_last l i
    rw [List.range_succ, List.filter_append]
    by_cases h : keepP l (i + 1) = true
    · exact ⟨i + 1, by simp [h], rfl⟩
    · refine ⟨k, by simp [h, h1], ?_⟩
      have h3 : l.getD (i + 1) [] = l.getD i [] := by
        simpa [keepP] using h
      rw [h2, h3]
theorem kept_split (l : List (List Bool)) (c : Nat) (hc : c ≤ l.length) : ∃ B, kept l = (List.range c).filter (keepP l) ++ B ∧ ∀ b ∈ B, c ≤ b := by
  obtain ⟨d, hd⟩ : ∃ d, l.length = c + d := ⟨l.length - c, by omega⟩
  refine ⟨((List.range d).map (c + ·)).filter (keepP l), ?_, fun b hb => ?_⟩
  · unfold kept
    rw [hd, List.range_add, List.filter_append]
    rfl
  · obtain ⟨x, _, rfl⟩ := List.mem_map.mp (List.mem_filter.mp hb).1
    omega
/-- as many kept places lie ahead of c, the last of them looks as c - 1 does -/
theorem kept_spec (l : List (List Bool)) (c : Nat) (h0 : 1 ≤ c) (hc : c ≤ l.length) (xs : List Int) (n : Int) (hx : ∀ k, k < l.length → (xs.getD k 0 ≤ n ↔ k < c)) :
    1 ≤ cnt ((kept l).map fun i => xs.getD i 0) n ∧ ∃ h : cnt ((kept l).map fun i => xs.getD i 0) n - 1 < (kept l).length, l.getD (kept l)[cnt ((kept l).map fun i => xs.getD i 0) n - 1] [] = l.getD (c - 1) [] := by
  obtain ⟨B, e, hB⟩ := kept_split l c hc
  have hA : ∀ a ∈ (List.range c).filter (keepP l), a < c := fun a ha => by simpa using (List.mem_filter.mp ha).1
  have ec : cnt ((kept l).map fun i => xs.getD i 0) n = ((List.range c).filter (keepP l)).length := by
    unfold cnt
    rw [List.filter_map, List.length_map]
    have e2 : (kept l).filter ((fun s => decide (s ≤ n)) ∘ fun i => xs.getD i 0) = (kept l).filter fun k => decide (k < c) := by
      refine List.filter_congr fun k hk => ?_
      have := hx k (kept_lt hk)
      simp only [Function.comp, decide_eq_decide]
      exact this
    have f1 : ((List.range c).filter (keepP l)).filter (fun k => decide (k < c)) = (List.range c).filter (keepP l) := List.filter_eq_self.mpr fun a ha => by simpa using hA a ha
    have f2 : B.filter (fun k => decide (k < c)) = [] := List.filter_eq_nil_iff.mpr fun b hb => by have := hB b hb; simp; omega
    rw [e2, e, List.filter_append, f1, f2, List.append_nil]
  obtain ⟨k, h1, h2⟩ := kept_last l (c - 1)
  rw [show c - 1 + 1 = c by omega] at h1
  rw [ec]
  have hne : (List.range c).filter (keepP l) ≠ [] := fun z => by rw [z] at h1; cases h1
  have hpos : 0 < ((List.range c).filter (keepP l)).length := List.length_pos_iff.mpr hne
  have hlt : ((List.range c).filter (keepP l)).length - 1 < (kept l).length := by rw [e, List.length_append]; omega
  refine ⟨hpos, hlt, ?_⟩
  have e3 : (kept l)[((List.range c).filter (keepP l)).length - 1] = k := by
    have : (kept l)[((List.range c).filter (keepP l)).length - 1]? = some k := by
      rw [e, List.getElem?_append_left (by omega), ← h1, List.getLast?_eq_getElem?]
    rw [List.getElem?_eq_getElem hlt] at this
    exact Option.some.inj this
  rw [e3, h2]
theorem getD_map {α β : Type} (l : List α) (f : α → β) (i : Nat) (h : i < l.length) (d : β) : (l.map f).getD i d = f l[i] := by simp [List.getD, h]
/-- membership in the joined grid of the boxes -/
theorem mem_joined (bs : List Bx) (hb : bs.length ≤ 4) (h w : Int) (hh : 1 ≤ h) (hw : 1 ≤ w) :
    memG (joined (gridOf bs)) h w = bs.any (fun x => inS x.r h && inS x.q w) ∧ 1 ≤ cnt (joined (gridOf bs)).hs h ∧ 1 ≤ cnt (joined (gridOf bs)).ws w ∧
      cnt (joined (gridOf bs)).hs h - 1 < (joined (gridOf bs)).t.length ∧ ∀ r ∈ (joined (gridOf bs)).t, cnt (joined (gridOf bs)).ws w - 1 < r.length := by
  have ok := gridOf_ok bs hb
  generalize hg : gridOf bs = g at ok
  have eh : g.hs = starts (bs.map Bx.r) := by rw [← hg]; rfl
  have ew : g.ws = starts (bs.map Bx.q) := by rw [← hg]; rfl
  obtain ⟨a1, a2, a3⟩ := band_spec (bs.map Bx.r) h hh
  obtain ⟨b1, b2, b3⟩ := band_spec (bs.map Bx.q) w hw
  have ascH : g.hs.Pairwise (· < ·) := by rw [eh]; exact sSet_asc _
  have ascW : g.ws.Pairwise (· < ·) := by rw [ew]; exact sSet_asc _
  rw [← eh] at a1 a2
  rw [← ew] at b1 b2
  have hca : (colsOf g).length = g.ws.length := by simp [colsOf]
  obtain ⟨k1, k2, k3⟩ := kept_spec g.t (cnt g.hs h) a1 (by rw [← ok.h]; exact cnt_le _ _) g.hs h fun k hk => by
    have hk' : k < g.hs.length := by rw [ok.h]; exact hk
    rw [show g.hs.getD k 0 = g.hs[k] by simp [List.getD, hk']]
    exact asc_cnt h g.hs ascH k hk'
  obtain ⟨m1, m2, m3⟩ := kept_spec (colsOf g) (cnt g.ws w) b1 (by rw [hca]; exact cnt_le _ _) g.ws w fun k hk => by
    have hk' : k < g.ws.length := by rw [← hca]; exact hk
    rw [show g.ws.getD k 0 = g.ws[k] by simp [List.getD, hk']]
    exact asc_cnt w g.ws ascW k hk'
  have jh : (joined g).hs = (kept g.t).map fun i => g.hs.getD i 0 := rfl
  have jw : (joined g).ws = (kept (colsOf g)).map fun j => g.ws.getD j 0 := rfl
  have jt : (joined g).t = (rowsOf g).map fun r => (kept (colsOf g)).map fun j => r.getD j false := rfl
  refine ⟨?_, by rw [jh]; exact k1, by rw [jw]; exact m1, by rw [jh, jt]; simpa [rowsOf] using k2, fun r hr => ?_⟩
  · unfold memG
    rw [jh, jw, jt]
    have hr1 : cnt ((kept g.t).map fun i => g.hs.getD i 0) h - 1 < (rowsOf g).length := by simpa [rowsOf] using k2
    -- the row
    have erow : (rowsOf g)[cnt ((kept g.t).map fun i => g.hs.getD i 0) h - 1] = g.t.getD (cnt g.hs h - 1) [] := by
      rw [← k3]
      simp [rowsOf]
    have e1 : ((rowsOf g).map fun r => (kept (colsOf g)).map fun j => r.getD j false).getD (cnt ((kept g.t).map fun i => g.hs.getD i 0) h - 1) [] = (kept (colsOf g)).map fun j => (g.t.getD (cnt g.hs h - 1) []).getD j false := by
      rw [getD_map _ _ _ hr1, erow]
    rw [e1]
    have e2 : ((kept (colsOf g)).map fun j => (g.t.getD (cnt g.hs h - 1) []).getD j false).getD (cnt ((kept (colsOf g)).map fun j => g.ws.getD j 0) w - 1) false = (g.t.getD (cnt g.hs h - 1) []).getD (kept (colsOf g))[cnt ((kept (colsOf g)).map fun j => g.ws.getD j 0) w - 1] false := by
      rw [getD_map _ _ _ m2]
    rw [e2]
    -- the column
    have hcol : ∀ j, j < g.ws.length → (colsOf g).getD j [] = (rowsOf g).map fun r => r.getD j false := fun j hj => by
      simp [colsOf, List.getD, hj]
    have hk := kept_lt (List.getElem_mem m2)
    have e3 : (g.t.getD (cnt g.hs h - 1) []).getD (kept (colsOf g))[cnt ((kept (colsOf g)).map fun j => g.ws.getD j 0) w - 1] false = (g.t.getD (cnt g.hs h - 1) []).getD (cnt g.ws w - 1) false := by
      have z := m3
      rw [hcol _ (by rw [← hca]; exact hk), hcol _ b2] at z
      have z2 := congrArg (fun l : List Bool => l[cnt ((kept g.t).map fun i => g.hs.getD i 0) h - 1]?) z
      simp only [List.getElem?_map, List.getElem?_eq_getElem hr1, Option.map_some, Option.some.injEq] at z2
      rw [erow] at z2
      exact z2
    rw [e3]
    -- the cell
    have ht : g.t = g.hs.map fun H => g.ws.map fun W => cellOf bs H W := by rw [← hg]; rfl
    have e4 : (g.t.getD (cnt g.hs h - 1) []).getD (cnt g.ws w - 1) false = cellOf bs g.hs[cnt g.hs h - 1] g.ws[cnt g.ws w - 1] := by
      rw [ht]
      simp [List.getD, a2, b2]
    rw [e4]
    unfold cellOf
    rw [List.any_filter]
    have pH : ∀ x ∈ bs, inS x.r g.hs[cnt g.hs h - 1] = inS x.r h := fun x hx => by
      have := a3 x.r (List.mem_map_of_mem hx)
      simpa only [← eh] using this
    have pW : ∀ x ∈ bs, inS x.q g.ws[cnt g.ws w - 1] = inS x.q w := fun x hx => by
      have := b3 x.q (List.mem_map_of_mem hx)
      simpa only [← ew] using this
    rw [Bool.eq_iff_iff]
    simp only [List.any_eq_true]
    constructor
    · rintro ⟨x, hx, q⟩
      exact ⟨x, hx, by rw [← pH x hx, ← pW x hx]; exact q⟩
    · rintro ⟨x, hx, q⟩
      exact ⟨x, hx, by rw [pH x hx, pW x hx]; exact q⟩
  · rw [jt] at hr
    obtain ⟨r0, _, rfl⟩ := List.mem_map.mp hr
    rw [jw]
    simpa using m2
end DL.K05
set_option linter.all false
set_option maxRecDepth 100000
set_option maxHeartbeats 4000000
namespace DL.K05
open PySem PySem.Spec PyProof.Rows L2 DL
theorem cnt_at {st : List Int} (asc : st.Pairwise (· < ·)) {i : Nat} (h : i < st.length) : cnt st st[i] = i + 1 := by
  have h1 := (asc_cnt st[i] st asc i h).mp (Int.le_refl _)
  have h2 := cnt_le st st[i]
  by_cases hi : i + 1 < st.length
  · have h3 : ¬ i + 1 < cnt st st[i] := fun z => by
      have := (asc_cnt st[i] st asc (i + 1) hi).mpr z
      have := List.pairwise_iff_getElem.mp asc i (i + 1) h hi (by omega)
      omega
    omega
  · omega
theorem cnt_pred {st : List Int} {n : Int} (h : n ∉ st) : cnt st (n - 1) = cnt st n := by
  unfold cnt
  congr 1
  refine List.filter_congr fun s hs => ?_
  have : s ≠ n := fun e => h (e ▸ hs)
  simp only [decide_eq_decide]
  omega
theorem cnt_at_pred {st : List Int} (asc : st.Pairwise (· < ·)) {i : Nat} (h : i < st.length) : cnt st (st[i] - 1) = i := by
  have h1 : ¬ i < cnt st (st[i] - 1) := fun z => by
    have := (asc_cnt (st[i] - 1) st asc i h).mpr z
    omega
  have h2 := cnt_le st (st[i] - 1)
  by_cases hi : cnt st (st[i] - 1) < i
  · have h4 : cnt st (st[i] - 1) < st.length := by omega
    have h3 : ¬ st[cnt st (st[i] - 1)] ≤ st[i] - 1 := fun z => Nat.lt_irrefl _ ((asc_cnt (st[i] - 1) st asc _ h4).mp z)
    have := List.pairwise_iff_getElem.mp asc _ i h4 h hi
    omega
  · omega
/-- a grid -/
structure Grd (g : Gr) : Prop where
  h1 : g.hs[0]? = some 1
  w1 : g.ws[0]? = some 1
  ha : g.hs.Pairwise (· < ·)
  wa : g.ws.Pairwise (· < ·)
  hl : g.hs.length = g.t.length
  wl : ∀ r ∈ g.t, r.length = g.ws.length
/-- .. no two neighbours are equal -/
structure Can (g : Gr) : Prop extends Grd g where
  rn : ∀ i, i + 1 < g.t.length → g.t.getD (i + 1) [] ≠ g.t.getD i []
  cn : ∀ j, j + 1 < g.ws.length → ∃ r ∈ g.t, r.getD (j + 1) false ≠ r.getD j false
theorem asc_first {st : List Int} (asc : st.Pairwise (· < ·)) (h : st[0]? = some 1) : ∀ k ∈ st, 1 ≤ k := fun k hk => by
  obtain ⟨i, hi, e⟩ := List.getElem_of_mem hk
  obtain ⟨h0, e0⟩ := List.getElem?_eq_some_iff.mp h
  rcases Nat.eq_zero_or_pos i with rfl | hp
  · omega
  · have := List.pairwise_iff_getElem.mp asc 0 i h0 hi hp
    omega
theorem cnt_pos {st : List Int} (asc : st.Pairwise (· < ·)) (h : st[0]? = some 1) {n : Int} (hn : 1 ≤ n) : 1 ≤ cnt st n ∧ cnt st n - 1 < st.length := by
  obtain ⟨h0, e0⟩ := List.getElem?_eq_some_iff.mp h
  have h1 := (asc_cnt n st asc 0 h0).mp (by omega)
  have h2 := cnt_le st n
  omega
theorem lists_ne {a b : List Bool} (hl : a.length = b.length) (h : a ≠ b) : ∃ j, j < a.length ∧ a.getD j false ≠ b.getD j false := by
  refine Classical.byContradiction fun hn => h ?_
  refine List.ext_getElem hl fun j h1 h2 => ?_
  refine Classical.byContradiction fun q => hn ⟨j, h1, ?_⟩
  simpa [List.getD, h1, h2] using q
theorem getD_mem {l : List (List Bool)} {i : Nat} (h : i < l.length) : l.getD i [] ∈ l := by
  simp [List.getD, h]
theorem Can.hs_iff {g : Gr} (c : Can g) (k : Int) : k ∈ g.hs ↔ k = 1 ∨ (2 ≤ k ∧ ∃ w, 1 ≤ w ∧ memG g (k - 1) w ≠ memG g k w) := by
  constructor
  · intro hk
    obtain ⟨i, hi, e⟩ := List.getElem_of_mem hk
    rcases Nat.eq_zero_or_pos i with rfl | hp
    · left
      obtain ⟨h0, e0⟩ := List.getElem?_eq_some_iff.mp c.h1
      omega
    · right
      obtain ⟨h0, e0⟩ := List.getElem?_eq_some_iff.mp c.h1
      have lt := List.pairwise_iff_getElem.mp c.ha 0 i h0 hi hp
      refine ⟨by omega, ?_⟩
      have hit : i < g.t.length := by rw [← c.hl]; exact hi
      have r1 := c.wl _ (getD_mem hit)
      have r2 := c.wl _ (getD_mem (l := g.t) (i := i - 1) (by omega))
      have ne := c.rn (i - 1) (by omega)
      rw [show i - 1 + 1 = i by omega] at ne
      obtain ⟨j, hj, hne⟩ := lists_ne (by rw [r1, r2]) ne
      rw [r1] at hj
      refine ⟨g.ws[j], asc_first c.wa c.w1 _ (List.getElem_mem hj), ?_⟩
      subst e
      unfold memG
      rw [cnt_at_pred c.ha hi, cnt_at c.ha hi, cnt_at c.wa hj]
      simpa using Ne.symm hne
  · rintro (rfl | ⟨h2, w, hw, hne⟩)
    · exact List.mem_of_getElem? c.h1
    · refine Classical.byContradiction fun hk => hne ?_
      unfold memG
      rw [cnt_pred hk]
theorem Can.ws_iff {g : Gr} (c : Can g) (k : Int) : k ∈ g.ws ↔ k = 1 ∨ (2 ≤ k ∧ ∃ h, 1 ≤ h ∧ memG g h (k - 1) ≠ memG g h k) := by
  constructor
  · intro hk
    obtain ⟨j, hj, e⟩ := List.getElem_of_mem hk
    rcases Nat.eq_zero_or_pos j with rfl | hp
    · left
      obtain ⟨h0, e0⟩ := List.getElem?_eq_some_iff.mp c.w1
      omega
    · right
      obtain ⟨h0, e0⟩ := List.getElem?_eq_some_iff.mp c.w1
      have lt := List.pairwise_iff_getElem.mp c.wa 0 j h0 hj hp
      refine ⟨by omega, ?_⟩
      obtain ⟨r, hr, hne⟩ := c.cn (j - 1) (by omega)
      rw [show j - 1 + 1 = j by omega] at hne
      obtain ⟨i, hi, er⟩ := List.getElem_of_mem hr
      have hih : i < g.hs.length := by rw [c.hl]; exact hi
      refine ⟨g.hs[i], asc_first c.ha c.h1 _ (List.getElem_mem hih), ?_⟩
      subst e
      unfold memG
      rw [cnt_at_pred c.wa hj, cnt_at c.wa hj, cnt_at c.ha hih]
      have e2 : g.t.getD (i + 1 - 1) [] = r := by simp [List.getD, hi, er]
      rw [e2]
      simpa using Ne.symm hne
  · rintro (rfl | ⟨h2, w, hw, hne⟩)
    · exact List.mem_of_getElem? c.w1
    · refine Classical.byContradiction fun hk => hne ?_
      unfold memG
      rw [cnt_pred hk]
/-- the same sizes, the same grid -/
theorem Can.ext {g g' : Gr} (c : Can g) (c' : Can g') (h : ∀ x y, 1 ≤ x → 1 ≤ y → memG g x y = memG g' x y) : g = g' := by
  have eh : g.hs = g'.hs := asc_ext c.ha c'.ha fun k => by
    rw [c.hs_iff, c'.hs_iff]
    refine or_congr Iff.rfl (and_congr_right fun h2 => exists_congr fun w => and_congr_right fun hw => ?_)
    rw [h (k - 1) w (by omega) hw, h k w (by omega) hw]
  have ew : g.ws = g'.ws := asc_ext c.wa c'.wa fun k => by
    rw [c.ws_iff, c'.ws_iff]
    refine or_congr Iff.rfl (and_congr_right fun h2 => exists_congr fun w => and_congr_right fun hw => ?_)
    rw [h w (k - 1) hw (by omega), h w k hw (by omega)]
  have et : g.t = g'.t := by
    refine List.ext_getElem (by rw [← c.hl, ← c'.hl, eh]) fun i h1 h2 => ?_
    have r1 := c.wl _ (List.getElem_mem h1)
    have r2 := c'.wl _ (List.getElem_mem h2)
    refine List.ext_getElem (by rw [r1, r2, ew]) fun j k1 k2 => ?_
    have hi : i < g.hs.length := by rw [c.hl]; exact h1
    have hj : j < g.ws.length := by rw [← r1]; exact k1
    have hi' : i < g'.hs.length := by rw [← eh]; exact hi
    have hj' : j < g'.ws.length := by rw [← ew]; exact hj
    have z := h g.hs[i] g.ws[j] (asc_first c.ha c.h1 _ (List.getElem_mem hi)) (asc_first c.wa c.w1 _ (List.getElem_mem hj))
    have ehi : g.hs[i] = g'.hs[i] := by simp only [eh]
    have ewj : g.ws[j] = g'.ws[j] := by simp only [ew]
    have z1 : memG g g.hs[i] g.ws[j] = g.t[i][j] := by
      unfold memG
      rw [cnt_at c.ha hi, cnt_at c.wa hj]
      simp [List.getD, h1, k1]
    have z2 : memG g' g.hs[i] g.ws[j] = g'.t[i][j] := by
      unfold memG
      rw [ehi, ewj, cnt_at c'.ha hi', cnt_at c'.wa hj']
      simp [List.getD, h2, k2]
    rw [← z1, z, z2]
  cases g
  cases g'
  simp only [Gr.mk.injEq]
  exact ⟨eh, ew, et⟩
theorem kept_asc (l : List (List Bool)) : (kept l).Pairwise (· < ·) := by
  unfold kept
  exact List.Pairwise.filter _ (List.pairwise_lt_range)
theorem kept_zero {l : List (List Bool)} (h : 0 < l.length) : (kept l)[0]? = some 0 := by
  obtain ⟨n, e⟩ : ∃ n, l.length = n + 1 := ⟨l.length - 1, by omega⟩
  unfold kept
  rw [e, List.range_succ_eq_map, List.filter_cons]
  simp
theorem kept_succ (l : List (List Bool)) (i : Nat) (h : i + 1 < (kept l).length) : l.getD (kept l)[i + 1] [] ≠ l.getD (kept l)[i] [] := by
  have hm : (kept l)[i + 1] ∈ kept l := List.getElem_mem h
  have hlt := kept_lt hm
  have hk : keepP l (kept l)[i + 1] = true := (List.mem_filter.mp hm).2
  have asc := List.pairwise_iff_getElem.mp (kept_asc l) i (i + 1) (by omega) h (by omega)
  generalize hk' : (kept l)[i + 1] = k' at hm hlt hk asc
  obtain ⟨B, e, hB⟩ := kept_split l k' (Nat.le_of_lt hlt)
  have hA : ∀ a ∈ (List.range k').filter (keepP l), a < k' := fun a ha => by simpa using (List.mem_filter.mp ha).1
  have hAl : ((List.range k').filter (keepP l)).length = i + 1 := by
    have key : ∀ m, (hm : m < (kept l).length) → (m < ((List.range k').filter (keepP l)).length ↔ m < i + 1) := fun m hm => by
      constructor
      · intro q
        have e2 : (kept l)[m] = ((List.range k').filter (keepP l))[m] := by
          have : (kept l)[m]? = ((List.range k').filter (keepP l))[m]? := by rw [e, List.getElem?_append_left q]
          rw [List.getElem?_eq_getElem hm, List.getElem?_eq_getElem q] at this
          exact Option.some.inj this
        have h3 := hA _ (List.getElem_mem q)
        rw [← e2] at h3
        refine Classical.byContradiction fun hc => ?_
        have h4 : i + 1 ≤ m := by omega
        rcases Nat.eq_or_lt_of_le h4 with rfl | h5
        · omega
        · have := List.pairwise_iff_getElem.mp (kept_asc l) (i + 1) m h hm h5
          omega
      · intro q
        refine Classical.byContradiction fun hc => ?_
        have e2 : (kept l)[m] ∈ B := by
          have q1 : (kept l)[m]? = B[m - ((List.range k').filter (keepP l)).length]? := by rw [e, List.getElem?_append_right (by omega)]
          rw [List.getElem?_eq_getElem hm] at q1
          exact List.mem_of_getElem? q1.symm
        have h3 := hB _ e2
        have := List.pairwise_iff_getElem.mp (kept_asc l) m (i + 1) hm h q
        omega
    have h0 : ((List.range k').filter (keepP l)).length ≤ (kept l).length := by rw [e]; simp
    have k1 := key i (by omega)
    have k2 := key (i + 1) h
    omega
  obtain ⟨k, h1, h2⟩ := kept_last l (k' - 1)
  rw [show k' - 1 + 1 = k' by omega] at h1
  have e3 : (kept l)[i] = k := by
    have : (kept l)[i]? = some k := by
      rw [e, List.getElem?_append_left (by omega), ← h1, List.getLast?_eq_getElem?, hAl]
      rfl
    rw [List.getElem?_eq_getElem (by omega)] at this
    exact Option.some.inj this
  rw [e3, h2]
  have hk0 : ¬ k' = 0 := by omega
  simpa [keepP, hk0] using hk
theorem kept_cover (l : List (List Bool)) (j : Nat) (h : j < l.length) : ∃ i, ∃ hi : i < (kept l).length, l.getD (kept l)[i] [] = l.getD j [] := by
  obtain ⟨k, h1, h2⟩ := kept_last l j
  have hm : k ∈ (List.range (j + 1)).filter (keepP l) := List.mem_of_getLast? h1
  have hm2 : k ∈ kept l := by
    obtain ⟨a, b⟩ := List.mem_filter.mp hm
    refine List.mem_filter.mpr ⟨?_, b⟩
    simp at a ⊢
    omega
  obtain ⟨i, hi, e⟩ := List.getElem_of_mem hm2
  exact ⟨i, hi, by rw [e]; exact h2⟩
theorem asc_pick {xs : List Int} (asc : xs.Pairwise (· < ·)) {ix : List Nat} (ia : ix.Pairwise (· < ·)) (hi : ∀ i ∈ ix, i < xs.length) : (ix.map fun i => xs.getD i 0).Pairwise (· < ·) := by
  rw [List.pairwise_map]
  refine ia.imp_of_mem fun {a b} ha hb hab => ?_
  have h1 := hi a ha
  have h2 := hi b hb
  simp only [List.getD, List.getElem?_eq_getElem h1, List.getElem?_eq_getElem h2, Option.getD_some]
  exact List.pairwise_iff_getElem.mp asc a b h1 h2 hab
theorem Grd.tpos {g : Gr} (G : Grd g) : 0 < g.t.length := by
  rw [← G.hl]
  exact (List.getElem?_eq_some_iff.mp G.h1).1
theorem Grd.wpos {g : Gr} (G : Grd g) : 0 < g.ws.length := (List.getElem?_eq_some_iff.mp G.w1).1
theorem cols_len (g : Gr) : (colsOf g).length = g.ws.length := by simp [colsOf]
theorem row_len {g : Gr} (G : Grd g) {r : List Bool} (hr : r ∈ rowsOf g) : r.length = g.ws.length := by
  obtain ⟨i, hi, rfl⟩ := List.mem_map.mp hr
  exact G.wl _ (getD_mem (kept_lt hi))
theorem col_at (g : Gr) {j : Nat} (hj : j < g.ws.length) : (colsOf g).getD j [] = (rowsOf g).map fun r => r.getD j false := by
  simp [colsOf, List.getD, hj]
theorem joined_can {g : Gr} (G : Grd g) : Can (joined g) := by
  have kc : 0 < (colsOf g).length := by rw [cols_len]; exact G.wpos
  have k0 := kept_zero G.tpos
  have c0 := kept_zero kc
  have kl : ∀ i ∈ kept g.t, i < g.hs.length := fun i hi => by rw [G.hl]; exact kept_lt hi
  have cl : ∀ i ∈ kept (colsOf g), i < g.ws.length := fun i hi => by rw [← cols_len g]; exact kept_lt hi
  refine ⟨⟨?_, ?_, asc_pick G.ha (kept_asc _) kl, asc_pick G.wa (kept_asc _) cl, by simp [joined, rowsOf], fun r hr => ?_⟩, fun i hi => ?_, fun j hj => ?_⟩
  · have e := G.h1
    have h0 := (List.getElem?_eq_some_iff.mp e).1
    simp [joined, k0, List.getD, e]
  · have e := G.w1
    simp [joined, c0, List.getD, e]
  · obtain ⟨r0, _, rfl⟩ := List.mem_map.mp hr
    simp [joined]
  · -- rows
    have hi' : i + 1 < (kept g.t).length := by simpa [joined, rowsOf] using hi
    have ne := kept_succ g.t i hi'
    have m1 : g.t.getD (kept g.t)[i + 1] [] ∈ rowsOf g := List.mem_map_of_mem (List.getElem_mem hi')
    have m2 : g.t.getD (kept g.t)[i] [] ∈ rowsOf g := List.mem_map_of_mem (List.getElem_mem _)
    have l1 := row_len G m1
    have l2 := row_len G m2
    intro e
    apply ne
    refine Classical.byContradiction fun hne => ?_
    obtain ⟨j, hj, hd⟩ := lists_ne (by rw [l1, l2]) hne
    rw [l1] at hj
    obtain ⟨q, hq, ecol⟩ := kept_cover (colsOf g) j (by rw [cols_len]; exact hj)
    have hkq := cl _ (List.getElem_mem hq)
    rw [col_at g hkq, col_at g hj] at ecol
    have same : ∀ r ∈ rowsOf g, r.getD (kept (colsOf g))[q] false = r.getD j false := fun r hr => List.map_inj_left.mp ecol r hr
    have er : ∀ (m : Nat) (hm : m < (kept g.t).length), (joined g).t.getD m [] = (kept (colsOf g)).map fun j => (g.t.getD (kept g.t)[m] []).getD j false := fun m hm => by
      simp [joined, rowsOf, List.getD, hm]
    rw [er (i + 1) hi', er i (by omega)] at e
    have e2 := List.map_inj_left.mp e _ (List.getElem_mem hq)
    rw [same _ m1, same _ m2] at e2
    exact hd e2
  · -- columns
    have hj' : j + 1 < (kept (colsOf g)).length := by simpa [joined] using hj
    have ne := kept_succ (colsOf g) j hj'
    have a1 := cl _ (List.getElem_mem hj')
    have a2 := cl _ (List.getElem_mem (l := kept (colsOf g)) (n := j) (by omega))
    rw [col_at g a1, col_at g a2] at ne
    refine Classical.byContradiction fun hno => ne ?_
    refine List.map_inj_left.mpr fun r hr => ?_
    refine Classical.byContradiction fun hd => hno ⟨(kept (colsOf g)).map fun j => r.getD j false, List.mem_map_of_mem (f := fun r => (kept (colsOf g)).map fun j => r.getD j false) hr, ?_⟩
    rw [getD_map _ _ _ hj', getD_map _ _ _ (by omega : j < (kept (colsOf g)).length)]
    exact hd
theorem joined_mem {g : Gr} (G : Grd g) (h w : Int) (hh : 1 ≤ h) (hw : 1 ≤ w) : memG (joined g) h w = memG g h w := by
  obtain ⟨a1, a2⟩ := cnt_pos G.ha G.h1 hh
  obtain ⟨b1, b2⟩ := cnt_pos G.wa G.w1 hw
  have hca := cols_len g
  obtain ⟨k1, k2, k3⟩ := kept_spec g.t (cnt g.hs h) a1 (by rw [← G.hl]; exact cnt_le _ _) g.hs h fun k hk => by
    have hk' : k < g.hs.length := by rw [G.hl]; exact hk
    rw [show g.hs.getD k 0 = g.hs[k] by simp [List.getD, hk']]
    exact asc_cnt h g.hs G.ha k hk'
  obtain ⟨m1, m2, m3⟩ := kept_spec (colsOf g) (cnt g.ws w) b1 (by rw [hca]; exact cnt_le _ _) g.ws w fun k hk => by
    have hk' : k < g.ws.length := by rw [← hca]; exact hk
    rw [show g.ws.getD k 0 = g.ws[k] by simp [List.getD, hk']]
    exact asc_cnt w g.ws G.wa k hk'
  have hr1 : cnt ((kept g.t).map fun i => g.hs.getD i 0) h - 1 < (rowsOf g).length := by simpa [rowsOf] using k2
  have erow : (rowsOf g)[cnt ((kept g.t).map fun i => g.hs.getD i 0) h - 1] = g.t.getD (cnt g.hs h - 1) [] := by
    rw [← k3]
    simp [rowsOf]
  show (((rowsOf g).map fun r => (kept (colsOf g)).map fun j => r.getD j false).getD (cnt ((kept g.t).map fun i => g.hs.getD i 0) h - 1) []).getD (cnt ((kept (colsOf g)).map fun j => g.ws.getD j 0) w - 1) false = _
  rw [getD_map _ _ _ hr1, erow, getD_map _ _ _ m2]
  have hk := kept_lt (List.getElem_mem m2)
  have z := m3
  rw [col_at g (by rw [← hca]; exact hk), col_at g b2] at z
  have z2 := congrArg (fun l : List Bool => l[cnt ((kept g.t).map fun i => g.hs.getD i 0) h - 1]?) z
  simp only [List.getElem?_map, List.getElem?_eq_getElem hr1, Option.map_some, Option.some.injEq] at z2
  rw [erow] at z2
  exact z2
theorem starts_one (l : List (Int × Option Int)) (h : ∀ p ∈ l, 1 ≤ p.1 ∧ ∀ b, p.2 = some b → 1 ≤ b) : (starts l)[0]? = some 1 := by
  have asc : (starts l).Pairwise (· < ·) := sSet_asc _
  have h1 : (1 : Int) ∈ starts l := mem_starts.mpr (.inl rfl)
  obtain ⟨i, hi, e⟩ := List.getElem_of_mem h1
  have hmin : ∀ k ∈ starts l, 1 ≤ k := fun k hk => by
    rcases mem_starts.mp hk with rfl | ⟨p, hp, rfl⟩ | ⟨p, hp, b, hb, rfl⟩
    · omega
    · exact (h p hp).1
    · have := (h p hp).2 b hb
      omega
  rcases Nat.eq_zero_or_pos i with rfl | hp
  · rw [List.getElem?_eq_getElem hi, e]
  · have := List.pairwise_iff_getElem.mp asc 0 i (by omega) hi hp
    have := hmin _ (List.getElem_mem (by omega : 0 < (starts l).length))
    omega
theorem okBx_pos {x : Bx} (h : okBx x) : (1 ≤ x.r.1 ∧ ∀ b, x.r.2 = some b → 1 ≤ b) ∧ (1 ≤ x.q.1 ∧ ∀ b, x.q.2 = some b → 1 ≤ b) := by
  obtain ⟨h1, h2, h3, h4⟩ := h
  refine ⟨⟨h1.1, fun b hb => ?_⟩, h3.1, fun b hb => ?_⟩
  · have hb' : x.b = some b := hb
    rw [hb'] at h2
    simp [okEnd] at h2
    omega
  · have hb' : x.d = some b := hb
    rw [hb'] at h4
    simp [okEnd] at h4
    omega
theorem gridOf_grd (bs : List Bx) (ho : ∀ x ∈ bs, okBx x) : Grd (gridOf bs) := by
  refine ⟨starts_one _ fun p hp => ?_, starts_one _ fun p hp => ?_, sSet_asc _, sSet_asc _, by simp [gridOf], fun r hr => ?_⟩
  · obtain ⟨x, hx, rfl⟩ := List.mem_map.mp hp
    exact (okBx_pos (ho x hx)).1
  · obtain ⟨x, hx, rfl⟩ := List.mem_map.mp hp
    exact (okBx_pos (ho x hx)).2
  · obtain ⟨H, _, rfl⟩ := List.mem_map.mp hr
    simp [gridOf]
def szG (bs : List Bx) : Gr := joined (gridOf bs)
theorem szG_can (bs : List Bx) (ho : ∀ x ∈ bs, okBx x) : Can (szG bs) := joined_can (gridOf_grd bs ho)
theorem szG_mem (bs : List Bx) (hb : bs.length ≤ 4) (h w : Int) (hh : 1 ≤ h) (hw : 1 ≤ w) : memG (szG bs) h w = bs.any fun x => inS x.r h && inS x.q w := (mem_joined bs hb h w hh hw).1
end DL.K05
set_option linter.all false
set_option maxRecDepth 100000
set_option maxHeartbeats 4000000
namespace DL.K05
open PySem PySem.Spec PyProof.Rows L2 DL
def runB (r : List Bool) (j : Nat) : Bool := r.getD j false && (j == 0 || !r.getD (j - 1) false)
def runsIn (t : List (List Bool)) : Nat → List (Nat × Nat)
  | k => match t with
    | [] => []
    | r :: t => ((List.range r.length).filter (runB r)).map (fun j => (k, j)) ++ runsIn t (k + 1)
def pairD (p : Nat × Nat) : Dat := .tup [.int p.1, .int p.2]
theorem runsIn_snoc : ∀ (t : List (List Bool)) (r : List Bool) (k : Nat), runsIn (t ++ [r]) k = runsIn t k ++ ((List.range r.length).filter (runB r)).map fun j => (k + t.length, j)
  | [], r, k => by simp [runsIn]
  | x :: t, r, k => by
    simp only [List.cons_append, runsIn, runsIn_snoc t r (k + 1), List.append_assoc, List.length_cons]
    rw [show k + 1 + t.length = k + (t.length + 1) by omega]
theorem runsIn_len (m : Nat) : ∀ (t : List (List Bool)) (k : Nat), (∀ r ∈ t, r.length ≤ m) → (runsIn t k).length ≤ t.length * m
  | [], k, _ => by simp [runsIn]
  | r :: t, k, h => by
    have ih := runsIn_len m t (k + 1) fun x hx => h x (by simp [hx])
    have h1 := h r (by simp)
    have h2 := List.length_filter_le (runB r) (List.range r.length)
    simp only [runsIn, List.length_append, List.length_map, List.length_cons, Nat.succ_mul]
    simp only [List.length_range] at h2
    omega
theorem enumD_map {β : Type} (enc : β → Dat) : ∀ (k : Nat) (xs : List β), enumD k (xs.map enc) = (xs.zipIdx k).map fun p => .tup [.int (p.2 : Nat), enc p.1]
  | _, [] => rfl
  | k, x :: xs => by simp [enumD, enumD_map enc (k + 1) xs]
theorem runs_eq (g : Gr) (h1 : g.t.length ≤ 1000) (h2 : ∀ r ∈ g.t, r.length ≤ 1000) (μ : List Cel) (hc : Clo μ) : g_runs_in [.d (grD g)] μ = .ok (.d (.lst ((runsIn g.t 0).map pairD))) μ := by
  refine WE.eq ?_
  simp [g_runs_in, b_runs_in, rho0, grD, atI, ixN, ws_for, tupIt, enumD_map]
  refine ws_forI (fun p : List Bool × Nat => .tup [.int (p.2 : Nat), rowD p.1]) (fun pre ρ μ' => μ' = μ ++ [.lst ((runsIn (pre.map (·.1)) 0).map pairD)] ∧ ∃ v w x, ρ = [x, some (.c μ.length), v, w, none]) (g.t.zipIdx 0) ?_ ?_ ?_
  · simp [runsIn]
  · rintro pre ⟨r, i⟩ post ρ _ e ⟨rfl, v, w, x, rfl⟩
    have hpre : pre.map (·.1) ++ r :: post.map (·.1) = g.t := by
      have := congrArg (List.map (·.1)) e
      simpa using this.symm
    have hi : i = pre.length := by
      have q := congrArg (fun l => l[pre.length]?) e
      simp at q
      have q2 := q
      obtain ⟨a, ha, hb⟩ := q2
      omega
    have hr : r.length ≤ 1000 := h2 r (by rw [← hpre]; simp)
    have hpl : (pre.map (·.1)).length ≤ 1000 := by rw [← hpre] at h1; simp at h1 ⊢; omega
    obtain ⟨m, hm⟩ : ∃ m : Nat, m = 1000 := ⟨_, rfl⟩
    have hall : ∀ y ∈ pre.map (·.1), y.length ≤ m := fun y hy => by
      have hy2 : y ∈ g.t := by
        rw [← hpre]
        exact List.mem_append_left _ hy
      have := h2 y hy2
      omega
    have hz := runsIn_len m (pre.map (·.1)) 0 hall
    have hc2 := hc.app ((runsIn (pre.map (·.1)) 0).map pairD)
    simp [isLstV]
    have hrl : (List.range r.length).length ≤ LIM := lim1000' (by rw [List.length_range]; exact hr)
    generalize e5 : [x, some (DV.c μ.length), some (DV.d (Dat.int ↑i)), some (DV.d (rowD r)), none] = R5
    refine we_lcP (fun j : Nat => .int (j : Nat)) (runB r) (fun j : Nat => pairD (i, j)) (List.range r.length) hrl ?_ fun j hj M hM => ?_
    all_goals subst e5
    · have rg := rng1_nat r.length hr
      have ln : lenN (.d (rowD r)) (μ ++ [.lst ((runsIn (pre.map (·.1)) 0).map pairD)]) = some r.length := by simp [lenN, rowD, blsDat]
      have hf := List.length_filter_le (runB r) (List.range r.length)
      simp only [List.length_range] at hf
      simp [rg, ln, rngD, hc2]
      have hz2 : (runsIn (pre.map (·.1)) 0).length ≤ 1000000 := by
        have q := Nat.mul_le_mul_right m hpl
        have q2 : 1000 * m = 1000000 := by rw [hm]
        omega
      refine ⟨Nat.le_trans (Nat.add_le_add hz2 (Nat.le_trans hf hr)) (by decide), ?_⟩
      rw [runsIn_snoc]
      simp [hi, List.map_map, Function.comp_def]
    · have hj' : j < r.length := by simpa using hj
      have at1 : ∀ q : Nat, q < r.length → atI (blsDat r) (q : Int) = some (.bl (r.getD q false)) := fun q hq => by
        rw [atI_nat _ q (by simpa [blsDat] using hq)]
        simp [blsDat, List.getD, hq]
      unfold lcTurn
      simp [wipeR, rowD, at1 j hj', truD, shal, eqD]
      have l2 : (2 : Nat) ≤ 16777216 := by decide
      cases hb : r[j]?.getD false with
      | false => simp [runB, hb]
      | true =>
        by_cases h0 : j = 0
        · subst h0
          simp [runB, hb, pairD]
        · have hm : ((j : Int) - 1) = ((j - 1 : Nat) : Int) := by omega
          have a2 := at1 (j - 1) (by omega)
          cases hq : r[j - 1]?.getD false <;> simp [List.getD, hq] at a2 <;> simp [h0, hm, a2, runB, hb, hq, pairD]
  · rintro ρ _ ⟨rfl, v, w, x, rfl⟩
    have e : (g.t.zipIdx 0).map (·.1) = g.t := by simp
    rw [e]
    simp [finV, cutM_app hc]
end DL.K05
set_option linter.all false
set_option maxRecDepth 100000
set_option maxHeartbeats 4000000
namespace DL.K05
open PySem PySem.Spec PyProof.Rows L2 DL
theorem log_small {n : Nat} (h : n ≤ 1000000) : n.log2 < 1920 := by
  rcases Nat.eq_zero_or_pos n with rfl | hp
  · decide
  · refine (Nat.log2_lt (by omega)).mpr ?_
    exact Nat.lt_of_le_of_lt h (Nat.lt_of_lt_of_le (by decide : 1000000 < 2 ^ 20) (Nat.pow_le_pow_right (by decide) (by decide)))
theorem runs_small (g : Gr) (h1 : g.t.length ≤ 1000) (h2 : ∀ r ∈ g.t, r.length ≤ 1000) : (runsIn g.t 0).length ≤ 1000000 := by
  obtain ⟨m, hm⟩ : ∃ m : Nat, m = 1000 := ⟨_, rfl⟩
  have hz := runsIn_len m g.t 0 fun y hy => by have := h2 y hy; omega
  have q := Nat.mul_le_mul_right m h1
  have q2 : 1000 * m = 1000000 := by rw [hm]
  omega
theorem len_eq (g : Gr) (h1 : g.t.length ≤ 1000) (h2 : ∀ r ∈ g.t, r.length ≤ 1000) (μ : List Cel) (hc : Clo μ) : g_Sizes_len [.d (insG g)] μ = .ok (.d (.int ((runsIn g.t 0).length : Nat))) μ := by
  refine WE.eq ?_
  have r := runs_eq g h1 h2 μ hc
  simp [g_Sizes_len, b_Sizes_len, rho0, insG, insC, insF, r, lenN]
def reprS (n : Nat) : List Nat := [83, 105, 122, 101, 115, 40] ++ intS n ++ [32, 98, 111, 120, 101, 115, 41]
theorem repr_eq (g : Gr) (h1 : g.t.length ≤ 1000) (h2 : ∀ r ∈ g.t, r.length ≤ 1000) (μ : List Cel) (hc : Clo μ) : g_Sizes_repr [.d (insG g)] μ = .ok (.d (.str (reprS (runsIn g.t 0).length))) μ := by
  refine WE.eq ?_
  have l := len_eq g h1 h2 μ hc
  have hs := runs_small g h1 h2
  have hl := log_small hs
  have i : insC (.d (insG g)) μ = some 23 := rfl
  generalize hn : (runsIn g.t 0).length = n at l hs hl
  have hl2 : ((n : Int).natAbs).log2 < 1920 := by simpa using hl
  have hi := intS_len n hl2
  have hi2 : (intS n).length ≤ 1000 := by
    have e := int_text_length_le (k := 20) (a := (n : Int)) (by decide) (by
      rcases Nat.eq_zero_or_pos n with h0 | hp
      · subst h0; decide
      · exact (Nat.log2_lt (by simpa using (by omega : n ≠ 0))).mpr (by simpa using Nat.lt_of_le_of_lt hs (by decide)))
    unfold intS
    have e2 : (Str.ofString (toString (n : Int))).cps.toList.length = (Str.ofString (toString (n : Int))).length := by
      simp [Str.length]
    rw [e2, PySem.ofString_length]
    omega
  simp [g_Sizes_repr, b_Sizes_repr, rho0, l, i, hl, hi, reprS, hn]
  omega
end DL.K05
set_option linter.all false
set_option maxRecDepth 100000
set_option maxHeartbeats 4000000
namespace DL.K05
open PySem PySem.Spec PyProof.Rows L2 DL
theorem filterMap_le (st : List Int) (n : Int) : ((intsDat st).filterMap fun d => match d with
    | .int i => if i ≤ n then some (Dat.int i) else none
    | _ => none) = intsDat (st.filter fun s => decide (s ≤ n)) := by
  induction st with
  | nil => rfl
  | cons s st ih =>
    by_cases h : s ≤ n
    · simpa [fnG, rho0, fin, finV, sSeq, sIf, sRet, sRetN, sSkip, sDo, sAsg, gN, eK, eV, e1, e2, eN, as0, as1, eCall, okD, tBool, tNotX, tTru, truD, eNot, eIf, cutM_self, addD, subD, leD, ltD, gtD, geD, isN, notN, isNonD, ixD, ofO, isiG, tyNm, isiB, lenG, lenN, intsDat, h] using ih
    · simpa [fnG, rho0, fin, finV, sSeq, sIf, sRet, sRetN, sSkip, sDo, sAsg, gN, eK, eV, e1, e2, eN, as0, as1, eCall, okD, tBool, tNotX, tTru, truD, eNot, eIf, cutM_self, addD, subD, leD, ltD, gtD, geD, isN, notN, isNonD, ixD, ofO, isiG, tyNm, isiB, lenG, lenN, intsDat, h] using ih
theorem band_at_eq (st : List Int) (hl : st.length ≤ 1000) (n : Int) (μ : List Cel) (hc : Clo μ) : g_band_at [.d (.tup (intsDat st)), .d (.int n)] μ = .ok (.d (.int ((cnt st n : Nat) - 1))) μ := by
  unfold g_band_at b_band_at
  refine fn_rt0 (st_ret (e2_ok (eN1_ok (eLc_pure hc (ds := intsDat st) (by simp [fnG, rho0, fin, finV, sSeq, sIf, sRet, sRetN, sSkip, sDo, sAsg, gN, eK, eV, e1, e2, eN, as0, as1, eCall, okD, tBool, tNotX, tTru, truD, eNot, eIf, cutM_self, addD, subD, leD, ltD, gtD, geD, isN, notN, isNonD, ixD, ofO, isiG, tyNm, isiB, lenG, lenN, iSeq, seqIt, ofS]) (by simp [fnG, rho0, fin, finV, sSeq, sIf, sRet, sRetN, sSkip, sDo, sAsg, gN, eK, eV, e1, e2, eN, as0, as1, eCall, okD, tBool, tNotX, tTru, truD, eNot, eIf, cutM_self, addD, subD, leD, ltD, gtD, geD, isN, notN, isNonD, ixD, ofO, isiG, tyNm, isiB, lenG, lenN, intsDat]; exact Nat.le_trans hl (by decide)) (fun d => match d with
    | .int i => if i ≤ n then some (Dat.int i) else none
    | _ => none) (fun d hd acc => ?_)) (by rw [filterMap_le]; rfl)) eK_ok ?_))
  · obtain ⟨i, _, rfl⟩ := List.mem_map.mp hd
    refine ⟨_, _, rfl, ?_⟩
    by_cases h : i ≤ n
    · simp [fnG, rho0, fin, finV, sSeq, sIf, sRet, sRetN, sSkip, sDo, sAsg, gN, eK, eV, e1, e2, eN, as0, as1, eCall, okD, tBool, tNotX, tTru, truD, eNot, eIf, cutM_self, addD, subD, leD, ltD, gtD, geD, isN, notN, isNonD, ixD, ofO, isiG, tyNm, isiB, lenG, lenN, wipeR, h]
    · simp [fnG, rho0, fin, finV, sSeq, sIf, sRet, sRetN, sSkip, sDo, sAsg, gN, eK, eV, e1, e2, eN, as0, as1, eCall, okD, tBool, tNotX, tTru, truD, eNot, eIf, cutM_self, addD, subD, leD, ltD, gtD, geD, isN, notN, isNonD, ixD, ofO, isiG, tyNm, isiB, lenG, lenN, wipeR, h]
  · simp [fnG, rho0, fin, finV, sSeq, sIf, sRet, sRetN, sSkip, sDo, sAsg, gN, eK, eV, e1, e2, eN, as0, as1, eCall, okD, tBool, tNotX, tTru, truD, eNot, eIf, cutM_self, addD, subD, leD, ltD, gtD, geD, isN, notN, isNonD, ixD, ofO, isiG, tyNm, isiB, lenG, lenN, intsDat, cnt]
theorem table_eq (g : Gr) (μ : List Cel) : g_Sizes_table [.d (insG g)] μ = .ok (.d (.tup (g.t.map rowD))) μ := by
  refine fn_rt0 (st_ret (e2_ok (e1_ok (eV_ok (x := .d (insG g)) (by simp [fnG, rho0, fin, finV, sSeq, sIf, sRet, sRetN, sSkip, sDo, sAsg, gN, eK, eV, e1, e2, eN, as0, as1, eCall, okD, tBool, tNotX, tTru, truD, eNot, eIf, cutM_self, addD, subD, leD, ltD, gtD, geD, isN, notN, isNonD, ixD, ofO, isiG, tyNm, isiB, lenG, lenN, rho0])) (r := .ok (.d (grD g)) μ) (by simp [fnG, rho0, fin, finV, sSeq, sIf, sRet, sRetN, sSkip, sDo, sAsg, gN, eK, eV, e1, e2, eN, as0, as1, eCall, okD, tBool, tNotX, tTru, truD, eNot, eIf, cutM_self, addD, subD, leD, ltD, gtD, geD, isN, notN, isNonD, ixD, ofO, isiG, tyNm, isiB, lenG, lenN, fldG, insC, insF, insG])) eK_ok (by simp [fnG, rho0, fin, finV, sSeq, sIf, sRet, sRetN, sSkip, sDo, sAsg, gN, eK, eV, e1, e2, eN, as0, as1, eCall, okD, tBool, tNotX, tTru, truD, eNot, eIf, cutM_self, addD, subD, leD, ltD, gtD, geD, isN, notN, isNonD, ixD, ofO, isiG, tyNm, isiB, lenG, lenN, ixD, grD, atI, ixN])))
theorem heights_eq (g : Gr) (μ : List Cel) : g_Sizes_heights [.d (insG g)] μ = .ok (.d (.tup (intsDat g.hs))) μ := by
  refine fn_rt0 (st_ret (e2_ok (e1_ok (eV_ok (x := .d (insG g)) (by simp [fnG, rho0, fin, finV, sSeq, sIf, sRet, sRetN, sSkip, sDo, sAsg, gN, eK, eV, e1, e2, eN, as0, as1, eCall, okD, tBool, tNotX, tTru, truD, eNot, eIf, cutM_self, addD, subD, leD, ltD, gtD, geD, isN, notN, isNonD, ixD, ofO, isiG, tyNm, isiB, lenG, lenN, rho0])) (r := .ok (.d (grD g)) μ) (by simp [fnG, rho0, fin, finV, sSeq, sIf, sRet, sRetN, sSkip, sDo, sAsg, gN, eK, eV, e1, e2, eN, as0, as1, eCall, okD, tBool, tNotX, tTru, truD, eNot, eIf, cutM_self, addD, subD, leD, ltD, gtD, geD, isN, notN, isNonD, ixD, ofO, isiG, tyNm, isiB, lenG, lenN, fldG, insC, insF, insG])) eK_ok (by simp [fnG, rho0, fin, finV, sSeq, sIf, sRet, sRetN, sSkip, sDo, sAsg, gN, eK, eV, e1, e2, eN, as0, as1, eCall, okD, tBool, tNotX, tTru, truD, eNot, eIf, cutM_self, addD, subD, leD, ltD, gtD, geD, isN, notN, isNonD, ixD, ofO, isiG, tyNm, isiB, lenG, lenN, ixD, grD, atI, ixN])))
theorem widths_eq (g : Gr) (μ : List Cel) : g_Sizes_widths [.d (insG g)] μ = .ok (.d (.tup (intsDat g.ws))) μ := by
  refine fn_rt0 (st_ret (e2_ok (e1_ok (eV_ok (x := .d (insG g)) (by simp [fnG, rho0, fin, finV, sSeq, sIf, sRet, sRetN, sSkip, sDo, sAsg, gN, eK, eV, e1, e2, eN, as0, as1, eCall, okD, tBool, tNotX, tTru, truD, eNot, eIf, cutM_self, addD, subD, leD, ltD, gtD, geD, isN, notN, isNonD, ixD, ofO, isiG, tyNm, isiB, lenG, lenN, rho0])) (r := .ok (.d (grD g)) μ) (by simp [fnG, rho0, fin, finV, sSeq, sIf, sRet, sRetN, sSkip, sDo, sAsg, gN, eK, eV, e1, e2, eN, as0, as1, eCall, okD, tBool, tNotX, tTru, truD, eNot, eIf, cutM_self, addD, subD, leD, ltD, gtD, geD, isN, notN, isNonD, ixD, ofO, isiG, tyNm, isiB, lenG, lenN, fldG, insC, insF, insG])) eK_ok (by simp [fnG, rho0, fin, finV, sSeq, sIf, sRet, sRetN, sSkip, sDo, sAsg, gN, eK, eV, e1, e2, eN, as0, as1, eCall, okD, tBool, tNotX, tTru, truD, eNot, eIf, cutM_self, addD, subD, leD, ltD, gtD, geD, isN, notN, isNonD, ixD, ofO, isiG, tyNm, isiB, lenG, lenN, ixD, grD, atI, ixN])))
end DL.K05
set_option linter.all false
set_option maxRecDepth 100000
set_option maxHeartbeats 4000000
namespace DL.K05
open PySem PySem.Spec PyProof.Rows L2 DL
theorem init1 (self : DV) (μ : List Cel) : g_Sizes_init_1 [self] μ = fnG true 5 b_Sizes_init [self, .d .non, .d (.tup (([] : List Bx).map bxD))] μ := by
  have l0 : (0 : Nat) ≤ LIM := by decide
  simp [g_Sizes_init_1, starG, rD_Sizes_init_1, aD_Sizes_init_1, dats]
theorem init3 (x y : Bx) (self : DV) (μ : List Cel) : g_Sizes_init_3 [self, .d (bxD x), .d (bxD y)] μ = fnG true 5 b_Sizes_init [self, .d .non, .d (.tup ([x, y].map bxD))] μ := by
  have l1 : (2 : Nat) ≤ LIM := by decide
  simp [g_Sizes_init_3, starG, rD_Sizes_init_3, aD_Sizes_init_3, dats, l1]
theorem init4 (x y z : Bx) (self : DV) (μ : List Cel) : g_Sizes_init_4 [self, .d (bxD x), .d (bxD y), .d (bxD z)] μ = fnG true 5 b_Sizes_init [self, .d .non, .d (.tup ([x, y, z].map bxD))] μ := by
  have l1 : (3 : Nat) ≤ LIM := by decide
  simp [g_Sizes_init_4, starG, rD_Sizes_init_4, aD_Sizes_init_4, dats, l1]
theorem init5 (x y z v : Bx) (self : DV) (μ : List Cel) : g_Sizes_init_5 [self, .d (bxD x), .d (bxD y), .d (bxD z), .d (bxD v)] μ = fnG true 5 b_Sizes_init [self, .d .non, .d (.tup ([x, y, z, v].map bxD))] μ := by
  have l1 : (4 : Nat) ≤ LIM := by decide
  simp [g_Sizes_init_5, starG, rD_Sizes_init_5, aD_Sizes_init_5, dats, l1]
theorem law_sizes_eq (bs : List Bx) (hb : bs.length ≤ 4) (ho : ∀ x ∈ bs, okBx x) (μ : List Cel) (hc : Clo μ) : g__law_sizes [.d (.lst (bs.map bxD))] μ = .ok (.d (szD bs)) μ := by
  unfold g__law_sizes b__law_sizes
  refine fn_rt0 ?_
  have ln : ∀ ρ : Rho, ρ[0]? = some (some (.d (.lst (bs.map bxD)))) → eN lenG (as1 (eV 0) as0) ρ μ = .ok (.d (.int (bs.length : Nat))) μ := fun ρ h => eN1_ok (eV_ok h) (by simp [lenG, lenN, okD])
  have r0 : (rho0 1 [.d (.lst (bs.map bxD))])[0]? = some (some (.d (.lst (bs.map bxD)))) := by simp [rho0]
  have ix : ∀ (i : Nat) (j : Int) (hj : j = (i : Nat)) (h : i < bs.length), e2 ixD (eV 0) (eK (.int j)) (rho0 1 [.d (.lst (bs.map bxD))]) μ = .ok (.d (bxD bs[i])) μ := fun i j hj h => e2_ok (eV_ok r0) eK_ok (by
    subst hj
    simp only [ixD]
    rw [atI_nat _ i (by simpa using h)]
    simp [ofO, okD])
  match bs, hb, ho, ln, r0, ix with
  | [], hb, ho, ln, r0, ix =>
    rw [st_if1 (μ' := μ) (tB_ok (e2_ok (ln _ r0) eK_ok (by simp [ltD, okD])))]
    rw [st_ret (v := .d (szD [])) (μ' := μ) (eIf1 (tB_ok (e2_ok (eV_ok r0) (r := .ok (.d (.bl true)) μ) (y := .d (.lst [])) (μ2 := μ) (by simp [eN, as0, eLstD, dats, okD]) (by simp [eqB, shal, shals, eqD, eqDs, okD]))) (by
      unfold eCall as0
      exact mk_eq [] hb ho μ hc _ [] fun self μ' => init1 self μ'))]
    rfl
  | [x], hb, ho, ln, r0, ix =>
    rw [st_if1 (μ' := μ) (tB_ok (e2_ok (ln _ r0) eK_ok (by simp [ltD, okD])))]
    rw [st_ret (v := .d (szD [x])) (μ' := μ) (eIf0 (tB_ok (e2_ok (eV_ok r0) (r := .ok (.d (.bl false)) μ) (y := .d (.lst [])) (μ2 := μ) (by simp [eN, as0, eLstD, dats, okD]) (by cases x with | mk a b c d => cases b <;> cases d <;> simp [eqB, shal, shals, eqD, eqDs, okD, bxD, optD]))) (eC1_ok (ix 0 0 rfl (by simp)) (mk_eq [x] hb ho μ hc _ _ fun self μ' => init2 x self μ')))]
    rfl
  | [x, y], hb, ho, ln, r0, ix =>
    rw [st_iff (μ' := μ) (tB_ok (e2_ok (ln _ r0) eK_ok (by simp [ltD, okD])))]
    rw [st_if1 (μ' := μ) (tB_ok (e2_ok (ln _ r0) eK_ok (by simp [eqB, shal, eqD, okD])))]
    rw [st_ret (v := .d (szD [x, y])) (μ' := μ) (eC2_ok (ix 0 0 rfl (by simp)) (ix 1 1 rfl (by simp)) (mk_eq [x, y] hb ho μ hc _ _ fun self μ' => init3 x y self μ'))]
    rfl
  | [x, y, z], hb, ho, ln, r0, ix =>
    rw [st_iff (μ' := μ) (tB_ok (e2_ok (ln _ r0) eK_ok (by simp [ltD, okD])))]
    rw [st_iff (μ' := μ) (tB_ok (e2_ok (ln _ r0) eK_ok (by simp [eqB, shal, eqD, okD])))]
    exact st_ret (eIf1 (tB_ok (e2_ok (ln _ r0) eK_ok (by simp [eqB, shal, eqD, okD]))) (eC3_ok (ix 0 0 rfl (by simp)) (ix 1 1 rfl (by simp)) (ix 2 2 rfl (by simp)) (mk_eq [x, y, z] hb ho μ hc _ _ fun self μ' => init4 x y z self μ')))
  | [x, y, z, v], hb, ho, ln, r0, ix =>
    rw [st_iff (μ' := μ) (tB_ok (e2_ok (ln _ r0) eK_ok (by simp [ltD, okD])))]
    rw [st_iff (μ' := μ) (tB_ok (e2_ok (ln _ r0) eK_ok (by simp [eqB, shal, eqD, okD])))]
    refine st_ret (eIf0 (μ1 := μ) (tB_ok (e2_ok (ln _ r0) eK_ok (by simp [eqB, shal, eqD, okD]))) ?_)
    unfold eCall as1 as0
    rw [show e2 ixD (eV 0) (eK (.int 0)) _ μ = _ from ix 0 0 rfl (by simp), bind_ok, show e2 ixD (eV 0) (eK (.int 1)) _ μ = _ from ix 1 1 rfl (by simp), bind_ok, show e2 ixD (eV 0) (eK (.int 2)) _ μ = _ from ix 2 2 rfl (by simp), bind_ok, show e2 ixD (eV 0) (eK (.int 3)) _ μ = _ from ix 3 3 rfl (by simp), bind_ok]
    exact mk_eq [x, y, z, v] hb ho μ hc _ _ fun self μ' => init5 x y z v self μ'
  | _ :: _ :: _ :: _ :: _ :: _, hb, _, _, _, _ => simp at hb
end DL.K05
set_option linter.all false
set_option maxRecDepth 100000
set_option maxHeartbeats 4000000
namespace DL.K05
open PySem PySem.Spec PyProof.Rows L2 DL
def allBx : Bx := ⟨1, none, 1, none⟩
theorem allBx_ok : okBx allBx := ⟨by decide, rfl, by decide, rfl⟩
theorem every_eq (μ : List Cel) (hc : Clo μ) : g_Sizes_every [.d (.cls 23)] μ = .ok (.d (szD [allBx])) μ := by
  refine fn_rt0 (st_ret ?_)
  have l4 : (4 : Nat) ≤ LIM := by decide
  have h1 : eN eTupD (as1 (eK (.int 1)) (as1 (eK .non) (as1 (eK (.int 1)) (as1 (eK .non) as0)))) (rho0 1 [.d (.cls 23)]) μ = .ok (.d (bxD allBx)) μ := by
    simp [eN, as1, as0, eK, eTupD, dats, l4, okD, bxD, allBx, optD]
  unfold eCallV
  rw [show (rho0 1 [.d (.cls 23)])[0]? = some (some (.d (.cls 23))) by simp [rho0]]
  simp only [if_true]
  exact eC1_ok h1 (mk_eq [allBx] (by decide) (fun x hx => by simp at hx; subst hx; exact allBx_ok) μ hc _ _ fun self μ' => init2 allBx self μ')
end DL.K05
set_option Elab.async false
set_option linter.all false
set_option maxRecDepth 100000
set_option maxHeartbeats 4000000
namespace DL
open PySem PySem.Spec PyProof.Rows L2
section
variable {Q : DV → List Cel → Prop} {X : Exn → List Cel → Prop} {ρ : Rho} {μ : List Cel} {a b : EX} {x y : DV}
@[simp] theorem we_getOwn {c : Nat} {g : Gn} : WE (getOwnG c g x y μ) Q X = (insC x μ = some c ∧ WE (g [x, y] μ) Q X0) := by
  unfold getOwnG
  split
  · rename_i h
    simp [h, we_noR]
  · rename_i h
    simp [h]
@[simp] theorem we_boolOwn {c : Nat} : WE (boolOwnG c x μ) Q X = (insC x μ = some c ∧ Q (.d (.bl true)) μ) := we_ite
@[simp] theorem we_strI {i : Int} : WE (strG (.d (.int i)) μ) Q X = ((i.natAbs.log2 < 1920 ∧ (intS i).length ≤ 16777216) ∧ Q (.d (.str (intS i))) μ) := we_ite
@[simp] theorem we_leS {s t : List Nat} : WE (leD (.d (.str s)) (.d (.str t)) μ) Q X = Q (.d (.bl (!ltL t s))) μ := rfl
@[simp] theorem we_ltS {s t : List Nat} : WE (ltD (.d (.str s)) (.d (.str t)) μ) Q X = Q (.d (.bl (ltL s t))) μ := rfl
end
section
variable {N : Rho → List Cel → Prop} {R : DV → List Cel → Prop} {X : Exn → Rho → List Cel → Prop} {ρ : Rho} {μ : List Cel}
@[simp] theorem ws_gTS {n : Nat} {gs : GXs} {ds : List Dat} : WS (gTS n gs (.d (.tup ds)) ρ μ) N R X = ((n ≤ ds.length ∧ ds.length ≤ 16384) ∧ WS (gs (ds.take n ++ [.lst (ds.drop n)]) ρ μ) N R X) := by
  show WS (if n ≤ ds.length ∧ ds.length ≤ 16384 then gs (ds.take n ++ [.lst (ds.drop n)]) ρ μ else .stuck) N R X = _
  by_cases h : n ≤ ds.length ∧ ds.length ≤ 16384
  · simp [h]
  · simp [h]
end
end DL
set_option linter.all false
set_option maxRecDepth 100000
set_option maxHeartbeats 1000000
namespace DL.K05
open PySem PySem.Spec PyProof.Rows L2 DL
theorem blT_ints (l : List Int) : blT (intsDat l) = false := by cases l <;> rfl
theorem ints_app (a b : List Int) : intsDat a ++ intsDat b = intsDat (a ++ b) := by simp [intsDat]
def mixG (f : Bool → Bool → Bool) (a b : Gr) : Gr := ⟨sSet (a.hs ++ b.hs), sSet (a.ws ++ b.ws), (sSet (a.hs ++ b.hs)).map fun H => (sSet (a.ws ++ b.ws)).map fun W => f (memG a H W) (memG b H W)⟩
/-- a grid with few bands -/
structure Bd (n : Nat) (g : Gr) : Prop where
  c : Can g
  h : g.hs.length ≤ n
  w : g.ws.length ≤ n
theorem Bd.mono {n m : Nat} {g : Gr} (b : Bd n g) (h : n ≤ m) : Bd m g := ⟨b.c, Nat.le_trans b.h h, Nat.le_trans b.w h⟩
theorem sSet_first {l : List Int} (h1 : 1 ∈ l) (hp : ∀ x ∈ l, 1 ≤ x) : (sSet l)[0]? = some 1 := by
  have asc := sSet_asc l
  have m1 : (1 : Int) ∈ sSet l := (sSet_mem 1 l).mpr h1
  obtain ⟨i, hi, e⟩ := List.getElem_of_mem m1
  by_cases h0 : i = 0
  · subst h0
    rw [List.getElem?_eq_getElem hi, e]
  · have h2 : 0 < (sSet l).length := by omega
    have := List.pairwise_iff_getElem.mp asc 0 i h2 hi (by omega)
    have h3 := hp _ ((sSet_mem _ l).mp (List.getElem_mem h2))
    omega
theorem mem_first {l : List Int} (h : l[0]? = some 1) : (1 : Int) ∈ l := List.mem_of_getElem? h
theorem mixG_grd (f : Bool → Bool → Bool) {a b : Gr} (ca : Can a) (cb : Can b) : Grd (mixG f a b) := by
  have pa := asc_first ca.ha ca.h1
  have pb := asc_first cb.ha cb.h1
  have qa := asc_first ca.wa ca.w1
  have qb := asc_first cb.wa cb.w1
  refine ⟨sSet_first (by simp [mem_first ca.h1]) fun x hx => ?_, sSet_first (by simp [mem_first ca.w1]) fun x hx => ?_, sSet_asc _, sSet_asc _, by simp [mixG], fun r hr => ?_⟩
  · rcases List.mem_append.mp hx with h | h
    · exact pa x h
    · exact pb x h
  · rcases List.mem_append.mp hx with h | h
    · exact qa x h
    · exact qb x h
  · obtain ⟨H, _, rfl⟩ := List.mem_map.mp hr
    simp [mixG]
/-- bands that have more borders: the one at which a number lies begins where it lies -/
theorem cnt_down {s t : List Int} (at_ : t.Pairwise (· < ·)) (hst : ∀ x ∈ s, x ∈ t) {n : Int} (hn : cnt t n - 1 < t.length) (h1 : 1 ≤ cnt t n) : cnt s (t[cnt t n - 1]) = cnt s n := by
  have le : t[cnt t n - 1] ≤ n := (asc_cnt n t at_ (cnt t n - 1) hn).mpr (by omega)
  have key : ∀ x ∈ s, (decide (x ≤ t[cnt t n - 1]) = decide (x ≤ n)) := fun x hx => by
    have hxt := hst x hx
    obtain ⟨i, hi, e⟩ := List.getElem_of_mem hxt
    by_cases hxn : x ≤ n
    · have h2 : i < cnt t n := (asc_cnt n t at_ i hi).mp (by rw [e]; exact hxn)
      have h3 : t[i] ≤ t[cnt t n - 1] := by
        by_cases q : i = cnt t n - 1
        · simp only [← q]; exact Int.le_refl _
        · exact Int.le_of_lt (List.pairwise_iff_getElem.mp at_ i _ hi hn (by omega))
      rw [e] at h3
      simp only [hxn, h3]
    · have h3 : ¬ x ≤ t[cnt t n - 1] := by omega
      simp only [hxn, h3]
  generalize t[cnt t n - 1] = z at key ⊢
  unfold cnt
  rw [List.filter_congr key]
theorem mixG_mem (f : Bool → Bool → Bool) {a b : Gr} (ca : Can a) (cb : Can b) (h w : Int) (hh : 1 ≤ h) (hw : 1 ≤ w) : memG (mixG f a b) h w = f (memG a h w) (memG b h w) := by
  have G := mixG_grd f ca cb
  obtain ⟨h1, h2⟩ := cnt_pos G.ha G.h1 hh
  obtain ⟨w1, w2⟩ := cnt_pos G.wa G.w1 hw
  have eh : ∀ g : Gr, (∀ x ∈ g.hs, x ∈ (mixG f a b).hs) → cnt g.hs ((mixG f a b).hs[cnt (mixG f a b).hs h - 1]) = cnt g.hs h := fun g hg => cnt_down G.ha hg h2 h1
  have ew : ∀ g : Gr, (∀ x ∈ g.ws, x ∈ (mixG f a b).ws) → cnt g.ws ((mixG f a b).ws[cnt (mixG f a b).ws w - 1]) = cnt g.ws w := fun g hg => cnt_down G.wa hg w2 w1
  have a1 := eh a fun x hx => (sSet_mem x _).mpr (List.mem_append_left _ hx)
  have b1 := eh b fun x hx => (sSet_mem x _).mpr (List.mem_append_right _ hx)
  have a2 := ew a fun x hx => (sSet_mem x _).mpr (List.mem_append_left _ hx)
  have b2 := ew b fun x hx => (sSet_mem x _).mpr (List.mem_append_right _ hx)
  have key : memG (mixG f a b) h w = f (memG a ((mixG f a b).hs[cnt (mixG f a b).hs h - 1]) ((mixG f a b).ws[cnt (mixG f a b).ws w - 1])) (memG b ((mixG f a b).hs[cnt (mixG f a b).hs h - 1]) ((mixG f a b).ws[cnt (mixG f a b).ws w - 1])) := by
    have e1 : (mixG f a b).t.getD (cnt (mixG f a b).hs h - 1) [] = (mixG f a b).ws.map fun W => f (memG a ((mixG f a b).hs[cnt (mixG f a b).hs h - 1]) W) (memG b ((mixG f a b).hs[cnt (mixG f a b).hs h - 1]) W) := by
      show ((mixG f a b).hs.map _).getD _ _ = _
      rw [List.getD_eq_getElem?_getD, List.getElem?_map, List.getElem?_eq_getElem h2]
      rfl
    unfold memG at e1 ⊢
    rw [e1, List.getD_eq_getElem?_getD, List.getElem?_map, List.getElem?_eq_getElem w2]
    rfl
  rw [key]
  unfold memG
  rw [a1, b1, a2, b2]
def opG (f : Bool → Bool → Bool) (a b : Gr) : Gr := joined (mixG f a b)
theorem joined_len (g : Gr) : (joined g).hs.length ≤ g.t.length ∧ (joined g).ws.length ≤ g.ws.length := by
  refine ⟨?_, ?_⟩
  · simp only [joined, List.length_map]
    exact kept_len _
  · simp only [joined, List.length_map]
    have := kept_len (colsOf g)
    rw [cols_len] at this
    exact this
theorem opG_bd (f : Bool → Bool → Bool) {n m : Nat} {a b : Gr} (ha : Bd n a) (hb : Bd m b) : Bd (n + m) (opG f a b) := by
  have G := mixG_grd f ha.c hb.c
  obtain ⟨l1, l2⟩ := joined_len (mixG f a b)
  have s1 := sSet_le (a.hs ++ b.hs)
  have s2 := sSet_le (a.ws ++ b.ws)
  have h1 := ha.h; have h2 := hb.h; have w1 := ha.w; have w2 := hb.w
  have t1 : (mixG f a b).t.length = (sSet (a.hs ++ b.hs)).length := by simp [mixG]
  have t2 : (mixG f a b).ws.length = (sSet (a.ws ++ b.ws)).length := rfl
  rw [List.length_append] at s1 s2
  exact ⟨joined_can G, by unfold opG; omega, by unfold opG; omega⟩
theorem opG_mem (f : Bool → Bool → Bool) {n m : Nat} {a b : Gr} (ha : Bd n a) (hb : Bd m b) (h w : Int) (hh : 1 ≤ h) (hw : 1 ≤ w) : memG (opG f a b) h w = f (memG a h w) (memG b h w) := by
  unfold opG
  rw [joined_mem (mixG_grd f ha.c hb.c) h w hh hw, mixG_mem f ha.c hb.c h w hh hw]
def wayF (w : List Nat) : Bool → Bool → Bool := if w = [101, 105, 116, 104, 101, 114] then or else if w = [98, 111, 116, 104] then and else fun x y => x && !y
theorem truth_eq (w : List Nat) (hw : w = [101, 105, 116, 104, 101, 114] ∨ w = [98, 111, 116, 104] ∨ w = [102, 105, 114, 115, 116]) (x y : Bool) (μ : List Cel) : g_truth_by [.d (.str w), .d (.bl x), .d (.bl y)] μ = .ok (.d (.bl (wayF w x y))) μ := by
  have ttb : ∀ b μ, truD (.d (.bl b)) μ = some b := fun _ _ => rfl
  have es : ∀ a b : List Nat, eqD (.str a) (.str b) = decide (a = b) := fun a b => by by_cases h : a = b <;> simp [eqD, h]
  have s1 : shal 60 (.str [101, 105, 116, 104, 101, 114]) = true := by decide
  have s2 : shal 60 (.str [98, 111, 116, 104]) = true := by decide
  have s3 : shal 60 (.str [102, 105, 114, 115, 116]) = true := by decide
  rcases hw with rfl | rfl | rfl <;> refine WE.eq ?_ <;> cases x <;> cases y <;> simp [g_truth_by, b_truth_by, rho0, ttb, es, s1, s2, s3, wayF]
theorem atI_map {β : Type} (f : β → Dat) (l : List β) (i : Nat) (h : i < l.length) : atI (l.map f) (i : Int) = some (f l[i]) := by
  rw [atI_nat _ i (by simpa using h)]
  simp
theorem mixed_eq {n m : Nat} {a b : Gr} (ha : Bd n a) (hb : Bd m b) (hnm : n + m ≤ 60) (w : List Nat) (hw : w = [101, 105, 116, 104, 101, 114] ∨ w = [98, 111, 116, 104] ∨ w = [102, 105, 114, 115, 116]) (μ : List Cel) (hc : Clo μ) :
    g_mixed_grid [.d (grD a), .d (grD b), .d (.str w)] μ = .ok (.d (grD (opG (wayF w) a b))) μ := by
  have h1 := ha.h; have h2 := hb.h; have w1 := ha.w; have w2 := hb.w
  have s1 := sSet_le (a.hs ++ b.hs)
  have s2 := sSet_le (a.ws ++ b.ws)
  rw [List.length_append] at s1 s2
  have la : (a.hs ++ b.hs).length < 1000 := by rw [List.length_append]; omega
  have lw : (a.ws ++ b.ws).length < 1000 := by rw [List.length_append]; omega
  have lz : ∀ l : List Int, (intsDat l).length = l.length := fun l => by simp [intsDat]
  have G := mixG_grd (wayF w) ha.c hb.c
  have i0 : ∀ (g : Gr) M, ixD (.d (grD g)) (.d (.int 0)) M = .ok (.d (.tup (intsDat g.hs))) M := fun g M => by simp [ixD, grD, atI, ixN, ofO, okD]
  have i1 : ∀ (g : Gr) M, ixD (.d (grD g)) (.d (.int 1)) M = .ok (.d (.tup (intsDat g.ws))) M := fun g M => by simp [ixD, grD, atI, ixN, ofO, okD]
  have i2 : ∀ (g : Gr) M, ixD (.d (grD g)) (.d (.int 2)) M = .ok (.d (.tup (g.t.map rowD))) M := fun g M => by simp [ixD, grD, atI, ixN, ofO, okD]
  generalize hA : grD a = A at *
  generalize hB : grD b = B at *
  have j0 := fun M => by have := i0 a M; rw [hA] at this; exact this
  have j1 := fun M => by have := i1 a M; rw [hA] at this; exact this
  have j2 := fun M => by have := i2 a M; rw [hA] at this; exact this
  have k0 := fun M => by have := i0 b M; rw [hB] at this; exact this
  have k1 := fun M => by have := i1 b M; rw [hB] at this; exact this
  have k2 := fun M => by have := i2 b M; rw [hB] at this; exact this
  generalize hHS : sSet (a.hs ++ b.hs) = HS at *
  generalize hWS : sSet (a.ws ++ b.ws) = WS' at *
  have lHS : HS.length ≤ 60 := by omega
  have lWS : WS'.length ≤ 60 := by omega
  have adT : ∀ (x y : List Int) M, x.length + y.length < 1000 → addD (.d (.tup (intsDat x))) (.d (.tup (intsDat y))) M = .ok (.d (.tup (intsDat (x ++ y)))) M := fun x y M h => by
    have hl : (intsDat x).length + (intsDat y).length ≤ LIM ∧ blT (intsDat x ++ intsDat y) = false := ⟨by rw [lz, lz]; exact Nat.le_trans (Nat.le_of_lt h) (by decide), by rw [ints_app]; exact blT_ints _⟩
    simp only [addD, if_pos hl, okD]
    rw [ints_app]
  have soT : ∀ (x : List Int) M, x.length < 1000 → (sSet x).length < 64 → sortSetD (.d (.tup (intsDat x))) M = .ok (.d (.lst (intsDat (sSet x)))) M := fun x M h h' => by
    simp only [sortSetD, seqsT, Option.bind_some, intsD_ints]
    rw [if_pos ⟨h, h'⟩]
    rfl
  rw [List.length_append] at la lw
  refine WE.eq ?_
  unfold g_mixed_grid
  rw [we_fnG]
  unfold b_mixed_grid
  show WS (sSeq _ _ [some (.d A), some (.d B), some (.d (.str w)), none, none, none, none, none, none, none, none, none, none] μ) _ _ _
  have e3 : (eN tupleG (as1 (e1 sortSetD (e2 addD (e2 ixD (eV 0) (eK (.int 0))) (e2 ixD (eV 1) (eK (.int 0))))) as0)) [some (.d A), some (.d B), some (.d (.str w)), none, none, none, none, none, none, none, none, none, none] μ = .ok (.d (.tup (intsDat HS))) μ := by
    refine eN1_ok (e1_ok (e2_ok (e2_ok (eV_ok (x := .d A) rfl) eK_ok (j0 μ)) (e2_ok (eV_ok (x := .d B) rfl) eK_ok (k0 μ)) (adT _ _ μ la)) (soT _ μ (by rw [List.length_append]; exact la) (by rw [hHS]; omega))) ?_
    rw [hHS]
    rfl
  rw [ws_seq, ws_asg, e3, we_ok, ws_gN]
  show WS (sSeq _ _ [some (.d A), some (.d B), some (.d (.str w)), some (.d (.tup (intsDat HS))), none, none, none, none, none, none, none, none, none] μ) _ _ _
  have e4 : (eN tupleG (as1 (e1 sortSetD (e2 addD (e2 ixD (eV 0) (eK (.int 1))) (e2 ixD (eV 1) (eK (.int 1))))) as0)) [some (.d A), some (.d B), some (.d (.str w)), some (.d (.tup (intsDat HS))), none, none, none, none, none, none, none, none, none] μ = .ok (.d (.tup (intsDat WS'))) μ := by
    refine eN1_ok (e1_ok (e2_ok (e2_ok (eV_ok (x := .d A) rfl) eK_ok (j1 μ)) (e2_ok (eV_ok (x := .d B) rfl) eK_ok (k1 μ)) (adT _ _ μ lw)) (soT _ μ (by rw [List.length_append]; exact lw) (by rw [hWS]; omega))) ?_
    rw [hWS]
    rfl
  rw [ws_seq, ws_asg, e4, we_ok, ws_gN]
  show WS (sSeq _ _ [some (.d A), some (.d B), some (.d (.str w)), some (.d (.tup (intsDat HS))), some (.d (.tup (intsDat WS'))), none, none, none, none, none, none, none, none] μ) _ _ _
  have ba : ∀ (st : List Int) (n : Int) M, Clo M → st.length ≤ 60 → g_band_at [.d (.tup (intsDat st)), .d (.int n)] M = .ok (.d (.int ((cnt st n : Nat) - 1))) M := fun st n M hM h => band_at_eq st (by omega) n M hM
  generalize hcol : (fun W : Int => Dat.tup [.int ((cnt a.ws W : Nat) - 1), .int ((cnt b.ws W : Nat) - 1)]) = col
  have e5 : (eLc [10] (iSeq (eV 4)) (gN 10) tTrue (eN eTupD (as1 (eCall 2 g_band_at (as1 (e2 ixD (eV 0) (eK (.int 1))) (as1 (eV 10) as0))) (as1 (eCall 2 g_band_at (as1 (e2 ixD (eV 1) (eK (.int 1))) (as1 (eV 10) as0))) as0)))) [some (.d A), some (.d B), some (.d (.str w)), some (.d (.tup (intsDat HS))), some (.d (.tup (intsDat WS'))), none, none, none, none, none, none, none, none] μ = .ok (.d (.lst (WS'.map col))) μ := by
    refine WE.eq ?_
    refine we_lcM (fun W : Int => Dat.int W) col WS' (lim1000 (by omega)) ?_ fun W hW M hM => ?_
    · rw [show iSeq (eV 4) [some (.d A), some (.d B), some (.d (.str w)), some (.d (.tup (intsDat HS))), some (.d (.tup (intsDat WS'))), none, none, none, none, none, none, none, none] μ = .ok (intsDat WS') μ from rfl, we_ok]
      exact ⟨rfl, hc, rfl, rfl⟩
    · have b1 := ba a.ws W M hM (by omega)
      have b2 := ba b.ws W M hM (by omega)
      simp [wipeR, j1, k1, b1, b2, ← hcol]
  rw [ws_seq, ws_asg, e5, we_ok, ws_gN]
  show WS (sSeq _ _ [some (.d A), some (.d B), some (.d (.str w)), some (.d (.tup (intsDat HS))), some (.d (.tup (intsDat WS'))), some (.d (.lst (WS'.map col))), none, none, none, none, none, none, none] μ) _ _ _
  rw [ws_seq, ws_asg, show eN eLstC as0 [some (.d A), some (.d B), some (.d (.str w)), some (.d (.tup (intsDat HS))), some (.d (.tup (intsDat WS'))), some (.d (.lst (WS'.map col))), none, none, none, none, none, none, none] μ = .ok (.c μ.length) (μ ++ [.lst []]) from rfl, we_ok, ws_gN]
  show WS (sSeq _ _ [some (.d A), some (.d B), some (.d (.str w)), some (.d (.tup (intsDat HS))), some (.d (.tup (intsDat WS'))), some (.d (.lst (WS'.map col))), some (.c μ.length), none, none, none, none, none, none] _) _ _ _
  rw [ws_seq, ws_for, show iSeq (eV 3) [some (.d A), some (.d B), some (.d (.str w)), some (.d (.tup (intsDat HS))), some (.d (.tup (intsDat WS'))), some (.d (.lst (WS'.map col))), some (.c μ.length), none, none, none, none, none, none] (μ ++ [.lst []]) = .ok (intsDat HS) (μ ++ [.lst []]) from rfl, we_ok]
  have cl : ∀ l, Clo (μ ++ [.lst l]) := fun l => hc.app l
  obtain ⟨rw_, hrw⟩ : ∃ rw_ : Int → Dat, rw_ = fun H => rowD (WS'.map fun W => wayF w (memG a H W) (memG b H W)) := ⟨_, rfl⟩
  refine ws_forI (fun H : Int => Dat.int H) (fun pre ρ M => M = μ ++ [.lst (pre.map rw_)] ∧ ∃ x7 x8 x9 x10 x11 x12, ρ = [some (.d A), some (.d B), some (.d (.str w)), some (.d (.tup (intsDat HS))), some (.d (.tup (intsDat WS'))), some (.d (.lst (WS'.map col))), some (.c μ.length), x7, x8, x9, x10, x11, x12]) HS ⟨rfl, _, _, _, _, _, _, rfl⟩ ?_ ?_
  · rintro pre H post ρ M ex ⟨rfl, x7, x8, x9, x10, x11, x12, rfl⟩
    have hH : 1 ≤ H := by
      have := asc_first G.ha G.h1 H (by show H ∈ sSet _; rw [hHS, ex]; simp)
      exact this
    have hpl : pre.length < HS.length := by rw [ex]; simp
    obtain ⟨ca1, ca2⟩ := cnt_pos ha.c.ha ha.c.h1 hH
    obtain ⟨cb1, cb2⟩ := cnt_pos hb.c.ha hb.c.h1 hH
    have ca3 : cnt a.hs H - 1 < a.t.length := by rw [← ha.c.hl]; exact ca2
    have cb3 : cnt b.hs H - 1 < b.t.length := by rw [← hb.c.hl]; exact cb2
    have n1 : ((cnt a.hs H : Nat) : Int) - 1 = ((cnt a.hs H - 1 : Nat) : Int) := by omega
    have n2 : ((cnt b.hs H : Nat) : Int) - 1 = ((cnt b.hs H - 1 : Nat) : Int) := by omega
    have b1 := ba a.hs H _ (cl (pre.map rw_)) (by omega)
    have b2 := ba b.hs H _ (cl (pre.map rw_)) (by omega)
    rw [n1] at b1
    rw [n2] at b2
    have ia := atI_map rowD a.t _ ca3
    have ib := atI_map rowD b.t _ cb3
    rw [ws_gN]
    show WS (sSeq _ _ [some (.d A), some (.d B), some (.d (.str w)), some (.d (.tup (intsDat HS))), some (.d (.tup (intsDat WS'))), some (.d (.lst (WS'.map col))), some (.c μ.length), some (.d (.int H)), x8, x9, x10, x11, x12] _) _ _ _
    have f8 : (e2 ixD (e2 ixD (eV 0) (eK (.int 2))) (eCall 2 g_band_at (as1 (e2 ixD (eV 0) (eK (.int 0))) (as1 (eV 7) as0)))) [some (.d A), some (.d B), some (.d (.str w)), some (.d (.tup (intsDat HS))), some (.d (.tup (intsDat WS'))), some (.d (.lst (WS'.map col))), some (.c μ.length), some (.d (.int H)), x8, x9, x10, x11, x12] (μ ++ [.lst (pre.map rw_)]) = .ok (.d (rowD a.t[cnt a.hs H - 1])) (μ ++ [.lst (pre.map rw_)]) := by
      refine e2_ok (e2_ok (eV_ok (x := .d A) rfl) eK_ok (j2 _)) (eC2_ok (e2_ok (eV_ok (x := .d A) rfl) eK_ok (j0 _)) (eV_ok (x := .d (.int H)) rfl) b1) ?_
      simp only [ixD, ia, ofO, okD]
    rw [ws_seq, ws_asg, f8, we_ok, ws_gN]
    show WS (sSeq _ _ [some (.d A), some (.d B), some (.d (.str w)), some (.d (.tup (intsDat HS))), some (.d (.tup (intsDat WS'))), some (.d (.lst (WS'.map col))), some (.c μ.length), some (.d (.int H)), some (.d (rowD a.t[cnt a.hs H - 1])), x9, x10, x11, x12] _) _ _ _
    have f9 : (e2 ixD (e2 ixD (eV 1) (eK (.int 2))) (eCall 2 g_band_at (as1 (e2 ixD (eV 1) (eK (.int 0))) (as1 (eV 7) as0)))) [some (.d A), some (.d B), some (.d (.str w)), some (.d (.tup (intsDat HS))), some (.d (.tup (intsDat WS'))), some (.d (.lst (WS'.map col))), some (.c μ.length), some (.d (.int H)), some (.d (rowD a.t[cnt a.hs H - 1])), x9, x10, x11, x12] (μ ++ [.lst (pre.map rw_)]) = .ok (.d (rowD b.t[cnt b.hs H - 1])) (μ ++ [.lst (pre.map rw_)]) := by
      refine e2_ok (e2_ok (eV_ok (x := .d B) rfl) eK_ok (k2 _)) (eC2_ok (e2_ok (eV_ok (x := .d B) rfl) eK_ok (k0 _)) (eV_ok (x := .d (.int H)) rfl) b2) ?_
      simp only [ixD, ib, ofO, okD]
    rw [ws_seq, ws_asg, f9, we_ok, ws_gN]
    show WS (sSeq _ _ [some (.d A), some (.d B), some (.d (.str w)), some (.d (.tup (intsDat HS))), some (.d (.tup (intsDat WS'))), some (.d (.lst (WS'.map col))), some (.c μ.length), some (.d (.int H)), some (.d (rowD a.t[cnt a.hs H - 1])), some (.d (rowD b.t[cnt b.hs H - 1])), x10, x11, x12] _) _ _ _
    have fr : (eN tupleG (as1 (eLc [11, 12] (iSeq (eV 5)) (gT 2 (gsC (gN 11) (gsC (gN 12) gsN))) tTrue (eCall 3 g_truth_by (as1 (eV 2) (as1 (e2 ixD (eV 8) (eV 11)) (as1 (e2 ixD (eV 9) (eV 12)) as0))))) as0)) [some (.d A), some (.d B), some (.d (.str w)), some (.d (.tup (intsDat HS))), some (.d (.tup (intsDat WS'))), some (.d (.lst (WS'.map col))), some (.c μ.length), some (.d (.int H)), some (.d (rowD a.t[cnt a.hs H - 1])), some (.d (rowD b.t[cnt b.hs H - 1])), x10, x11, x12] (μ ++ [.lst (pre.map rw_)]) = .ok (.d (rw_ H)) (μ ++ [.lst (pre.map rw_)]) := by
      refine eN1_ok (μ1 := μ ++ [.lst (pre.map rw_)]) (x := .d (.lst (WS'.map fun W => .bl (wayF w (memG a H W) (memG b H W))))) (WE.eq ?_) ?_
      · refine we_lcM col (fun W => .bl (wayF w (memG a H W) (memG b H W))) WS' (lim1000 (by omega)) ?_ fun W hW M hM => ?_
        · rw [show iSeq (eV 5) [some (.d A), some (.d B), some (.d (.str w)), some (.d (.tup (intsDat HS))), some (.d (.tup (intsDat WS'))), some (.d (.lst (WS'.map col))), some (.c μ.length), some (.d (.int H)), some (.d (rowD a.t[cnt a.hs H - 1])), some (.d (rowD b.t[cnt b.hs H - 1])), x10, x11, x12] (μ ++ [.lst (pre.map rw_)]) = .ok (WS'.map col) (μ ++ [.lst (pre.map rw_)]) from rfl, we_ok]
          exact ⟨rfl, cl _, rfl, rfl⟩
        · have hW1 : 1 ≤ W := asc_first G.wa G.w1 W (by show W ∈ sSet _; rw [hWS]; exact hW)
          obtain ⟨wa1, wa2⟩ := cnt_pos ha.c.wa ha.c.w1 hW1
          obtain ⟨wb1, wb2⟩ := cnt_pos hb.c.wa hb.c.w1 hW1
          have ra := ha.c.wl _ (List.getElem_mem ca3)
          have rb := hb.c.wl _ (List.getElem_mem cb3)
          have m1 : ((cnt a.ws W : Nat) : Int) - 1 = ((cnt a.ws W - 1 : Nat) : Int) := by omega
          have m2 : ((cnt b.ws W : Nat) : Int) - 1 = ((cnt b.ws W - 1 : Nat) : Int) := by omega
          have pa := atI_map Dat.bl a.t[cnt a.hs H - 1] (cnt a.ws W - 1) (by rw [ra]; exact wa2)
          have pb := atI_map Dat.bl b.t[cnt b.hs H - 1] (cnt b.ws W - 1) (by rw [rb]; exact wb2)
          have ma : memG a H W = a.t[cnt a.hs H - 1][cnt a.ws W - 1]'(by rw [ra]; exact wa2) := by
            unfold memG
            simp only [List.getD_eq_getElem?_getD, List.getElem?_eq_getElem ca3, Option.getD_some]
            rw [List.getElem?_eq_getElem (by rw [ra]; exact wa2)]
            rfl
          have mb : memG b H W = b.t[cnt b.hs H - 1][cnt b.ws W - 1]'(by rw [rb]; exact wb2) := by
            unfold memG
            simp only [List.getD_eq_getElem?_getD, List.getElem?_eq_getElem cb3, Option.getD_some]
            rw [List.getElem?_eq_getElem (by rw [rb]; exact wb2)]
            rfl
          have te := truth_eq w hw (memG a H W) (memG b H W) M
          have xa : ixD (.d (rowD a.t[cnt a.hs H - 1])) (.d (.int ((cnt a.ws W : Nat) - 1))) M = .ok (.d (.bl (memG a H W))) M := by
            rw [m1, ma]
            simp only [ixD, rowD, blsDat, pa, ofO, okD]
          have xb : ixD (.d (rowD b.t[cnt b.hs H - 1])) (.d (.int ((cnt b.ws W : Nat) - 1))) M = .ok (.d (.bl (memG b H W))) M := by
            rw [m2, mb]
            simp only [ixD, rowD, blsDat, pb, ofO, okD]
          have hc2 : col W = .tup [.int ((cnt a.ws W : Nat) - 1), .int ((cnt b.ws W : Nat) - 1)] := by rw [← hcol]
          rw [hc2]
          refine WS.of_nx (ρ := [some (.d A), some (.d B), some (.d (.str w)), some (.d (.tup (intsDat HS))), some (.d (.tup (intsDat WS'))), some (.d (.lst (WS'.map col))), some (.c μ.length), some (.d (.int H)), some (.d (rowD a.t[cnt a.hs H - 1])), some (.d (rowD b.t[cnt b.hs H - 1])), x10, some (.d (.int ((cnt a.ws W : Nat) - 1))), some (.d (.int ((cnt b.ws W : Nat) - 1)))]) (μ := M) rfl ?_
          rw [show (eCall 3 g_truth_by (as1 (eV 2) (as1 (e2 ixD (eV 8) (eV 11)) (as1 (e2 ixD (eV 9) (eV 12)) as0)))) [some (.d A), some (.d B), some (.d (.str w)), some (.d (.tup (intsDat HS))), some (.d (.tup (intsDat WS'))), some (.d (.lst (WS'.map col))), some (.c μ.length), some (.d (.int H)), some (.d (rowD a.t[cnt a.hs H - 1])), some (.d (rowD b.t[cnt b.hs H - 1])), x10, some (.d (.int ((cnt a.ws W : Nat) - 1))), some (.d (.int ((cnt b.ws W : Nat) - 1)))] M = .ok (.d (.bl (wayF w (memG a H W) (memG b H W)))) M from eC3_ok (eV_ok rfl) (e2_ok (eV_ok rfl) (eV_ok rfl) xa) (e2_ok (eV_ok rfl) (eV_ok rfl) xb) te, we_ok]
          exact ⟨rfl, rfl⟩
      · rw [hrw]
        simp [tupleG, rowD, blsDat, okD, Function.comp_def]
    rw [ws_seq, ws_do]
    have fa : (eLm1 appendD (eV 6) (eN tupleG (as1 (eLc [11, 12] (iSeq (eV 5)) (gT 2 (gsC (gN 11) (gsC (gN 12) gsN))) tTrue (eCall 3 g_truth_by (as1 (eV 2) (as1 (e2 ixD (eV 8) (eV 11)) (as1 (e2 ixD (eV 9) (eV 12)) as0))))) as0))) [some (.d A), some (.d B), some (.d (.str w)), some (.d (.tup (intsDat HS))), some (.d (.tup (intsDat WS'))), some (.d (.lst (WS'.map col))), some (.c μ.length), some (.d (.int H)), some (.d (rowD a.t[cnt a.hs H - 1])), some (.d (rowD b.t[cnt b.hs H - 1])), x10, x11, x12] (μ ++ [.lst (pre.map rw_)]) = .ok (.d .non) (μ ++ [.lst ((pre ++ [H]).map rw_)]) := by
      have hg : (μ ++ [Cel.lst (pre.map rw_)])[μ.length]? = some (.lst (pre.map rw_)) := by simp
      have hlt : (pre.map rw_).length < 16777216 := by rw [List.length_map]; omega
      have il : isLstV (.c μ.length) (μ ++ [Cel.lst (pre.map rw_)]) = true := by simp only [isLstV, hg]
      refine WE.eq ?_
      rw [we_lm1, show eV 6 [some (.d A), some (.d B), some (.d (.str w)), some (.d (.tup (intsDat HS))), some (.d (.tup (intsDat WS'))), some (.d (.lst (WS'.map col))), some (.c μ.length), some (.d (.int H)), some (.d (rowD a.t[cnt a.hs H - 1])), some (.d (rowD b.t[cnt b.hs H - 1])), x10, x11, x12] (μ ++ [.lst (pre.map rw_)]) = .ok (.c μ.length) (μ ++ [.lst (pre.map rw_)]) from rfl, we_ok]
      refine ⟨il, ?_⟩
      rw [fr, we_ok]
      simp [hg]
      omega
    rw [fa, we_ok, ws_skip]
    exact ⟨rfl, _, _, _, _, _, _, rfl⟩
  · rintro ρ M ⟨rfl, x7, x8, x9, x10, x11, x12, rfl⟩
    have gok : GrOk (mixG (wayF w) a b) := ⟨G.hl, G.wl, by show ((sSet _).map _).length ≤ 1000; rw [hHS, List.length_map]; omega, by show (sSet _).length ≤ 1000; rw [hWS]; omega⟩
    have jg := joined_grid_eq (mixG (wayF w) a b) gok (μ ++ [.lst (HS.map rw_)]) (cl _)
    have eg : grD (mixG (wayF w) a b) = .tup [.tup (intsDat HS), .tup (intsDat WS'), .tup (HS.map rw_)] := by
      simp only [grD, mixG, hHS, hWS, hrw, List.map_map]
      rfl
    rw [eg] at jg
    have eR : (eCall 1 g_joined_grid (as1 (eN eTupD (as1 (eV 3) (as1 (eV 4) (as1 (eN tupleG (as1 (eV 6) as0)) as0)))) as0)) [some (.d A), some (.d B), some (.d (.str w)), some (.d (.tup (intsDat HS))), some (.d (.tup (intsDat WS'))), some (.d (.lst (WS'.map col))), some (.c μ.length), x7, x8, x9, x10, x11, x12] (μ ++ [.lst (HS.map rw_)]) = .ok (.d (grD (opG (wayF w) a b))) (μ ++ [.lst (HS.map rw_)]) := by
      refine eC1_ok (eN3_ok (eV_ok (x := .d (.tup (intsDat HS))) rfl) (eV_ok (x := .d (.tup (intsDat WS'))) rfl) (eN1_ok (eV_ok (x := .c μ.length) rfl) (r := .ok (.d (.tup (HS.map rw_))) (μ ++ [.lst (HS.map rw_)])) (by simp [tupleG, okD])) (r := .ok (.d (.tup [.tup (intsDat HS), .tup (intsDat WS'), .tup (HS.map rw_)])) (μ ++ [.lst (HS.map rw_)])) rfl) ?_
      exact jg
    rw [ws_seq, ws_ret, eR, we_ok]
    simp only [finV, we_ok]
    exact ⟨trivial, cutM_app hc _⟩
end DL.K05
set_option linter.all false
set_option maxRecDepth 100000
set_option maxHeartbeats 1000000
namespace DL.K05
open PySem PySem.Spec PyProof.Rows L2 DL
theorem mkgrid_eq (g : Gr) (μ : List Cel) (hc : Clo μ) : mkG true 23 g_Sizes_init_1_grid [.d (grD g)] μ = .ok (.d (insG g)) μ := by
  have e : g_Sizes_init_1_grid [.c μ.length, .d (grD g)] (μ ++ [.ins 23 []]) = .ok (.d .non) (μ ++ [.ins 23 [(11, .d (grD g))]]) := by
    have e4 : ∀ z, cutM (μ.length + 1) (μ ++ [z]) = μ ++ [z] := fun z => by
      have := cutM_self (μ ++ [z])
      simpa using this
    have nn : isNonD (grD g) = false := rfl
    refine WE.eq ?_
    generalize grD g = G at *
    simp [g_Sizes_init_1_grid, rD_Sizes_init_1_grid, aD_Sizes_init_1_grid, b_Sizes_init, rho0, ws_for, tupIt, enumD, dats, forL, nn, putN, e4]
  unfold mkG
  rw [e, bind_ok]
  simp [nonV, finV, datF, cutM_app hc, insG]
def orG : Gr → Gr → Gr := opG or
def andG : Gr → Gr → Gr := opG and
def subG : Gr → Gr → Gr := opG fun x y => x && !y
def evG : Gr := ⟨[1], [1], [[true]]⟩
def notG (a : Gr) : Gr := subG evG a
theorem way_e : wayF [101, 105, 116, 104, 101, 114] = or := by simp [wayF]
theorem way_b : wayF [98, 111, 116, 104] = and := by simp [wayF]
theorem way_f : wayF [102, 105, 114, 115, 116] = fun x y => x && !y := by simp [wayF]
theorem evG_bd : Bd 1 evG := by
  have : evG = szG [allBx] := by kernel_rfl
  rw [this]
  exact ⟨szG_can _ (by intro x hx; simp at hx; subst hx; exact allBx_ok), by decide +kernel, by decide +kernel⟩
theorem fldS (g : Gr) (ρ : Rho) (i : Nat) (μ : List Cel) (h : ρ[i]? = some (some (.d (insG g)))) : e1 (fldG [23] 11) (eV i) ρ μ = .ok (.d (grD g)) μ := e1_ok (eV_ok h) (by simp [fldG, insC, insF, insG])
theorem eCK1 {e : EX} {g : Gn} {ρ : Rho} {μ μ1 : List Cel} {x : DV} {r : Out DV} (h : e ρ μ = .ok x μ1) (h2 : g [x] μ1 = r) : eCallK 0 1 g as0 (as1 e as0) ρ μ = r := by
  unfold eCallK as0 as1
  simp only [bind_ok, h, List.length_nil, List.length_cons, List.nil_append, Nat.zero_add, and_self, if_true]
  exact h2
section
variable {n m : Nat} {a b : Gr} {μ : List Cel}
theorem bin_eq {f : Gn} {w : List Nat} (hw : w = [101, 105, 116, 104, 101, 114] ∨ w = [98, 111, 116, 104] ∨ w = [102, 105, 114, 115, 116]) (ha : Bd n a) (hb : Bd m b) (h : n + m ≤ 60) (hc : Clo μ)
    (hf : f = fnG true 2 (sSeq (sRet (eCallK 0 1 (mkG true 23 g_Sizes_init_1_grid) as0 (as1 (eCall 3 g_mixed_grid (as1 (e1 (fldG [23] 11) (eV 0)) (as1 (e1 (fldG [23] 11) (eV 1)) (as1 (eK (.str w)) as0)))) as0))) sSkip)) : binOwnG 23 f (.d (insG a)) (.d (insG b)) μ = .ok (.d (insG (opG (wayF w) a b))) μ := by
  have hic : ∀ g : Gr, insC (.d (insG g)) μ = some 23 := fun _ => rfl
  have mx := mixed_eq ha hb h w hw μ hc
  have mk := mkgrid_eq (opG (wayF w) a b) μ hc
  have key : f [.d (insG a), .d (insG b)] μ = .ok (.d (insG (opG (wayF w) a b))) μ := by
    rw [hf]
    exact fn_rt0 (st_ret (eCK1 (eC3_ok (fldS a _ 0 μ rfl) (fldS b _ 1 μ rfl) eK_ok mx) mk))
  unfold binOwnG
  rw [if_pos ⟨hic a, hic b⟩, key]
  rfl
theorem or_eq (ha : Bd n a) (hb : Bd m b) (h : n + m ≤ 60) (hc : Clo μ) : binOwnG 23 g_Sizes_or (.d (insG a)) (.d (insG b)) μ = .ok (.d (insG (orG a b))) μ := by
  have := bin_eq (f := g_Sizes_or) (w := [101, 105, 116, 104, 101, 114]) (.inl rfl) ha hb h hc rfl
  rwa [way_e] at this
theorem and_eq (ha : Bd n a) (hb : Bd m b) (h : n + m ≤ 60) (hc : Clo μ) : binOwnG 23 g_Sizes_and (.d (insG a)) (.d (insG b)) μ = .ok (.d (insG (andG a b))) μ := by
  have := bin_eq (f := g_Sizes_and) (w := [98, 111, 116, 104]) (.inr (.inl rfl)) ha hb h hc rfl
  rwa [way_b] at this
theorem not_eq (ha : Bd n a) (h : n + 1 ≤ 60) (hc : Clo μ) : unOwnG 23 g_Sizes_invert (.d (insG a)) μ = .ok (.d (insG (notG a))) μ := by
  have hic : ∀ g : Gr, insC (.d (insG g)) μ = some 23 := fun _ => rfl
  have mx := mixed_eq evG_bd ha (by omega) [102, 105, 114, 115, 116] (.inr (.inr rfl)) μ hc
  rw [way_f] at mx
  have mk := mkgrid_eq (notG a) μ hc
  have key : g_Sizes_invert [.d (insG a)] μ = .ok (.d (insG (notG a))) μ := by
    exact fn_rt0 (st_ret (eCK1 (eC3_ok (x := .d (grD evG)) eK_ok (fldS a _ 0 μ rfl) eK_ok mx) mk))
  unfold unOwnG
  rw [if_pos (hic a), key]
  rfl
theorem orG_bd (ha : Bd n a) (hb : Bd m b) : Bd (n + m) (orG a b) := opG_bd _ ha hb
theorem andG_bd (ha : Bd n a) (hb : Bd m b) : Bd (n + m) (andG a b) := opG_bd _ ha hb
theorem notG_bd (ha : Bd n a) : Bd (1 + n) (notG a) := opG_bd _ evG_bd ha
theorem orG_mem (ha : Bd n a) (hb : Bd m b) (h w : Int) (hh : 1 ≤ h) (hw : 1 ≤ w) : memG (orG a b) h w = (memG a h w || memG b h w) := opG_mem _ ha hb h w hh hw
theorem andG_mem (ha : Bd n a) (hb : Bd m b) (h w : Int) (hh : 1 ≤ h) (hw : 1 ≤ w) : memG (andG a b) h w = (memG a h w && memG b h w) := opG_mem _ ha hb h w hh hw
end
theorem szG_bd (bs : List Bx) (ho : ∀ x ∈ bs, okBx x) : Bd (1 + 2 * bs.length) (szG bs) := by
  obtain ⟨l1, l2⟩ := joined_len (gridOf bs)
  have h1 := starts_len (bs.map Bx.r)
  have h2 := starts_len (bs.map Bx.q)
  simp only [List.length_map] at h1 h2
  have t1 : (gridOf bs).t.length = (starts (bs.map Bx.r)).length := by simp [gridOf]
  have t2 : (gridOf bs).ws.length = (starts (bs.map Bx.q)).length := rfl
  exact ⟨szG_can bs ho, by unfold szG; omega, by unfold szG; omega⟩
theorem szG_nil_mem (h w : Int) (hh : 1 ≤ h) (hw : 1 ≤ w) : memG (szG []) h w = false := by
  rw [szG_mem [] (by decide) h w hh hw]
  rfl
theorem mk0_eq (μ : List Cel) (hc : Clo μ) : mkG true 23 g_Sizes_init_1 [] μ = .ok (.d (insG (szG []))) μ := mk_eq [] (by decide) (by simp) μ hc _ [] fun self μ' => init1 self μ'
theorem mk1_eq (x : Bx) (ho : okBx x) (μ : List Cel) (hc : Clo μ) : mkG true 23 g_Sizes_init_2 [.d (bxD x)] μ = .ok (.d (insG (szG [x]))) μ := mk_eq [x] (by simp) (by simpa using ho) μ hc _ _ fun self μ' => init2 x self μ'
theorem eqDs_ints : ∀ a : List Int, eqDs (intsDat a) (intsDat a) = true
  | [] => by simp [intsDat, eqDs]
  | x :: a => by
    have := eqDs_ints a
    simp [intsDat, eqDs, eqD] at this ⊢
    exact this
theorem eqDs_rows : ∀ t : List (List Bool), eqDs (t.map rowD) (t.map rowD) = true
  | [] => by simp [eqDs]
  | r :: t => by
    have h1 := eqDs_rows t
    have h2 := eqDs_bls r r
    simp only [List.map_cons, eqDs, h1, Bool.and_true]
    show eqD (.tup (blsDat r)) (.tup (blsDat r)) = true
    simp [eqD, h2]
theorem shals_rows (n : Nat) : ∀ t : List (List Bool), shals (n + 1) (t.map rowD) = true
  | [] => rfl
  | r :: t => by
    have h1 := shals_rows n t
    have h2 := shals_bls n r
    simp only [List.map_cons, shals, h1, Bool.and_true]
    show shals n (blsDat r) = true
    exact h2
theorem shals_intsZ (n : Nat) : ∀ a : List Int, shals n (intsDat a) = true
  | [] => rfl
  | x :: a => by
    have := shals_intsZ n a
    simp only [intsDat, List.map_cons, shals] at this ⊢
    rw [this]
    simp [shal]
theorem grD_eq (g : Gr) : eqD (grD g) (grD g) = true := by simp [grD, eqD, eqDs, eqDs_ints, eqDs_rows]
theorem grD_shal (g : Gr) : shal 60 (grD g) = true := by
  show shals 59 _ = true
  have h1 := shals_intsZ 58 g.hs
  have h2 := shals_intsZ 58 g.ws
  have h3 := shals_rows 57 g.t
  simp only [shals, Bool.and_true]
  show (shals 58 (intsDat g.hs) && (shals 58 (intsDat g.ws) && shals 58 (g.t.map rowD))) = true
  rw [h1, h2, h3]
  rfl
theorem sizes_eq_self (g : Gr) (μ : List Cel) : g_Sizes_eq [.d (insG g), .d (insG g)] μ = .ok (.d (.bl true)) μ := by
  have it : ∀ μ, isiX [("NoneType", false), ("bool", false), ("int", false), ("str", false), ("tuple", false), ("list", false), ("dict", false)] [(23, true)] (.d (insG g)) μ = .ok (.d (.bl true)) μ := fun _ => rfl
  refine fn_rt0 (st_ret ?_)
  have e : e2 eqB (e1 (fldG [23] 11) (eV 0)) (e1 (fldG [23] 11) (eV 1)) (rho0 2 [.d (insG g), .d (insG g)]) μ = .ok (.d (.bl true)) μ := e2_ok (fldS g _ 0 μ rfl) (fldS g _ 1 μ rfl) (by
    unfold eqB
    simp only [grD_shal, grD_eq, Bool.and_self, if_true]
    rfl)
  unfold eAnd
  rw [e1_ok (eV_ok rfl) (it μ)]
  exact e
theorem eqOwn_self (g : Gr) (μ : List Cel) : eqOwnG false 23 ["NoneType", "bool", "int", "str", "tuple", "list", "dict"] [23] g_Sizes_eq (.d (insG g)) (.d (insG g)) μ = .ok (.d (.bl true)) μ := by
  have c : insC (.d (insG g)) μ = some 23 := rfl
  have o : okTy ["NoneType", "bool", "int", "str", "tuple", "list", "dict"] [23] (.d (insG g)) μ = true := rfl
  unfold eqOwnG
  rw [if_pos ⟨c, o⟩, sizes_eq_self g]
  rfl
end DL.K05
set_option Elab.async false
set_option linter.all false
set_option maxRecDepth 100000
set_option maxHeartbeats 4000000
namespace DL
open PySem PySem.Spec PyProof.Rows L2
def WY (o : YOut) (N : List Dat → Rho → List Cel → Prop) : Prop := match o with
  | .nx zs ρ μ => N zs ρ μ
  | _ => False
section
variable {zs : List Dat} {ρ : Rho} {μ : List Cel} {N N' : List Dat → Rho → List Cel → Prop} {a b : YX}
theorem WY.mono {o : YOut} (h : WY o N) (i : ∀ zs ρ μ, N zs ρ μ → N' zs ρ μ) : WY o N' := by
  cases o with
  | nx zs ρ μ => exact i _ _ _ h
  | raise e ρ μ => exact h.elim
  | stuck => exact h.elim
theorem wy_bind {o : YOut} {f : YX} : WY (o.bind f) N ↔ WY o (fun zs ρ μ => WY (f zs ρ μ) N) := by cases o <;> exact Iff.rfl
theorem wy_seq : WY (ySeq a b zs ρ μ) N ↔ WY (a zs ρ μ) (fun zs ρ μ => WY (b zs ρ μ) N) := wy_bind
theorem wy_skip : WY (ySkip zs ρ μ) N ↔ N zs ρ μ := Iff.rfl
theorem wy_pl {s : SX} : WY (yPl s zs ρ μ) N ↔ WS (s ρ μ) (fun ρ μ => N zs ρ μ) (fun _ _ => False) (fun _ _ _ => False) := by
  show WY ((s ρ μ).ybind fun ρ μ => .nx zs ρ μ) N ↔ _
  cases s ρ μ <;> exact Iff.rfl
theorem wy_yield {x : EX} (hl : zs.length < LIM) : WY (yYield x zs ρ μ) N ↔ WE (x ρ μ) (fun v μ => ∃ d, v = .d d ∧ N (zs ++ [d]) ρ μ) (fun _ _ => False) := by
  show WY (if zs.length < LIM then (x ρ μ).ybind ρ fun v μ => yOut zs ρ v μ else .stuck) N ↔ _
  rw [if_pos hl]
  cases x ρ μ with
  | ok v μ1 =>
    cases v with
    | d d => exact ⟨fun h => ⟨d, rfl, h⟩, fun ⟨e, q, h⟩ => by cases q; exact h⟩
    | c n => exact ⟨fun h => h.elim, fun ⟨e, q, h⟩ => by cases q⟩
  | raise e μ1 => exact Iff.rfl
  | stuck => exact Iff.rfl
theorem wy_pb {o : SOut} {f : Rho → List Cel → YOut} : WY (o.ybind f) N ↔ WS o (fun ρ μ => WY (f ρ μ) N) (fun _ _ => False) XS := by cases o <;> exact Iff.rfl
/-- a for loop in a generator by its invariant -/
theorem wy_forI {β : Type} {g : GX} {b : YX} (enc : β → Dat) (I : List β → List Dat → Rho → List Cel → Prop) (xs : List β) (h0 : I [] zs ρ μ)
    (hs : ∀ pre x post zs ρ μ, xs = pre ++ x :: post → I pre zs ρ μ → WS (g (.d (enc x)) ρ μ) (fun ρ μ => WY (b zs ρ μ) (fun zs ρ μ => I (pre ++ [x]) zs ρ μ)) (fun _ _ => False) XS)
    (he : ∀ zs ρ μ, I xs zs ρ μ → N zs ρ μ) : WY (yForL g b (xs.map enc) zs ρ μ) N := by
  have key : ∀ (post pre : List β) (zs : List Dat) (ρ : Rho) (μ : List Cel), xs = pre ++ post → I pre zs ρ μ → WY (yForL g b (post.map enc) zs ρ μ) N := by
    intro post
    induction post with
    | nil =>
      intro pre zs ρ μ e i
      rw [List.append_nil] at e
      subst e
      exact he _ _ _ i
    | cons x post ih =>
      intro pre zs ρ μ e i
      show WY ((((g (.d (enc x)) ρ μ).ybind fun ρ μ => b zs ρ μ)).bind (yForL g b (post.map enc))) N
      rw [wy_bind, wy_pb]
      have h := hs pre x post zs ρ μ e i
      revert h
      cases g (.d (enc x)) ρ μ with
      | nx ρ1 μ1 =>
        intro h
        exact WY.mono h fun zs2 ρ2 μ2 i2 => ih (pre ++ [x]) zs2 ρ2 μ2 (by rw [e, List.append_assoc]; rfl) i2
      | rt v μ1 => exact fun h => h
      | raise ex ρ1 μ1 => exact fun h => h
      | stuck => exact fun h => h
  exact key xs [] zs ρ μ rfl h0
theorem wy_for {it : IX} {g : GX} {b : YX} {ds : List Dat} {μ1 : List Cel} (h : it ρ μ = .ok ds μ1) : WY (yFor it g b zs ρ μ) N ↔ WY (yForL g b ds zs ρ μ1) N := by
  show WY ((it ρ μ).ybind ρ fun ds μ => yForL g b ds zs ρ μ) N ↔ _
  rw [h]
  exact Iff.rfl
theorem wy_set {i : Nat} {e : EX} {v : DV} {μ1 : List Cel} (h : e ρ μ = .ok v μ1) : WY (yPl (sAsg e (gN i)) zs ρ μ) N ↔ N zs (ρ.set i (some v)) μ1 := by
  rw [wy_pl]
  show WS ((e ρ μ).sbind ρ fun v μ => gN i v ρ μ) _ _ _ ↔ _
  rw [h]
  exact Iff.rfl
theorem wy_if {c : TX} {b : Bool} {μ1 : List Cel} {x y : YX} (h : c ρ μ = .ok b μ1) : WY (yIf c x y zs ρ μ) N ↔ WY (if b then x zs ρ μ1 else y zs ρ μ1) N := by
  show WY ((c ρ μ).ybind ρ fun q μ => if q then x zs ρ μ else y zs ρ μ) N ↔ _
  rw [h]
  exact Iff.rfl
theorem wy_out {x : EX} {d : Dat} {μ1 : List Cel} (hl : zs.length < LIM) (h : x ρ μ = .ok (.d d) μ1) : WY (yYield x zs ρ μ) N ↔ N (zs ++ [d]) ρ μ1 := by
  rw [wy_yield hl, h]
  exact ⟨fun ⟨e, q, h⟩ => by cases q; exact h, fun h => ⟨d, rfl, h⟩⟩
theorem genM_ok {c N : Nat} {b : YX} {a : EX} {x : DV} {μ1 : List Cel} {out : List Dat} (ha : a ρ μ = .ok x μ1) (hi : insC x μ1 = some c) (hc : Clo μ1) (hl : out.length ≤ LIM) (h : WY (b [] (rho0 N [x]) μ1) (fun zs _ μ' => zs = out ∧ ∃ ν, μ' = μ1 ++ ν)) : eGenM c N b a ρ μ = .ok (.d (.lst out)) μ1 := by
  unfold eGenM
  rw [ha, bind_ok, if_pos hi]
  revert h
  cases q : b [] (rho0 N [x]) μ1 with
  | nx zs ρ' μ' =>
    rintro ⟨rfl, ν, rfl⟩
    show (if zs.length ≤ LIM then okD (.lst zs) (cutM μ1.length (μ1 ++ ν)) else .stuck) = _
    rw [if_pos hl, cutM_app hc]
    rfl
  | raise e ρ' μ' => exact fun h => h.elim
  | stuck => exact fun h => h.elim
end
end DL
set_option linter.all false
set_option maxRecDepth 100000
set_option maxHeartbeats 1000000
namespace DL.K05
open PySem PySem.Spec PyProof.Rows L2 DL
def lastB (r : List Bool) (j : Nat) : Bool := r.getD j false && !r.getD (j + 1) false
def begA (ws : List Int) (r : List Bool) : Nat → Int
  | 0 => ws.getD 0 0
  | j + 1 => if r.getD j false = true then begA ws r j else ws.getD (j + 1) 0
def endA (ws : List Int) (j : Nat) : Option Int := (ws[j + 1]?).map (· - 1)
def rowBx (hs ws : List Int) (k : Nat) (r : List Bool) (n : Nat) : List Bx := ((List.range n).filter (lastB r)).map fun i => ⟨hs.getD k 0, endA hs k, begA ws r i, endA ws i⟩
def dueL (hs ws : List Int) : List (List Bool) → Nat → List Bx
  | [], _ => []
  | r :: t, k => rowBx hs ws k r r.length ++ dueL hs ws t (k + 1)
def dueBx (g : Gr) : List Bx := dueL g.hs g.ws g.t 0
theorem dueL_snoc (hs ws : List Int) : ∀ (t : List (List Bool)) (r : List Bool) (k : Nat), dueL hs ws (t ++ [r]) k = dueL hs ws t k ++ rowBx hs ws (k + t.length) r r.length
  | [], r, k => by simp [dueL]
  | x :: t, r, k => by
    simp only [List.cons_append, dueL, dueL_snoc hs ws t r (k + 1), List.append_assoc, List.length_cons]
    rw [show k + 1 + t.length = k + (t.length + 1) by omega]
theorem rowBx_len (hs ws : List Int) (k : Nat) (r : List Bool) (n : Nat) : (rowBx hs ws k r n).length ≤ n := by
  have := List.length_filter_le (lastB r) (List.range n)
  simp only [List.length_range] at this
  simpa [rowBx] using this
theorem dueL_len (hs ws : List Int) (m : Nat) : ∀ (t : List (List Bool)) (k : Nat), (∀ r ∈ t, r.length ≤ m) → (dueL hs ws t k).length ≤ t.length * m
  | [], k, _ => by simp [dueL]
  | r :: t, k, h => by
    have ih := dueL_len hs ws m t (k + 1) fun x hx => h x (by simp [hx])
    have h1 := h r (by simp)
    have h2 := rowBx_len hs ws k r r.length
    simp only [dueL, List.length_append, List.length_cons, Nat.succ_mul]
    omega
theorem rowBx_succ (hs ws : List Int) (k : Nat) (r : List Bool) (n : Nat) : rowBx hs ws k r (n + 1) = rowBx hs ws k r n ++ (if lastB r n = true then [⟨hs.getD k 0, endA hs k, begA ws r n, endA ws n⟩] else []) := by
  unfold rowBx
  rw [List.range_succ, List.filter_append, List.map_append]
  congr 1
  by_cases h : lastB r n = true <;> simp [h]
theorem cut_tail {β : Type} (t : List β) : cutL t (some 1) none = t.drop 1 := by
  unfold cutL
  rw [show (some (1 : Int)) = some ((1 : Nat) : Int) from rfl, HT.sIx_nat, HT.sIx_none]
  cases t with
  | nil => rfl
  | cons x t =>
    simp only [List.length_cons]
    rw [show min 1 (t.length + 1) = 1 by omega]
    simp
def tailD (l : List Int) : List Dat := (l.drop 1).map (fun x => Dat.int (x - 1)) ++ [.non]
theorem tail_at (l : List Int) (j : Nat) (h : j < l.length) : atI (tailD l) (j : Int) = some (optD (endA l j)) := by
  have hz : j < (tailD l).length := by simp [tailD]; omega
  rw [atI_nat _ j hz, ← List.getElem?_eq_getElem hz]
  unfold tailD endA
  by_cases h2 : j + 1 < l.length
  · rw [List.getElem?_append_left (by simp; omega)]
    simp [List.getElem?_eq_getElem h2, optD, Nat.add_comm 1 j]
  · have e : j = l.length - 1 := by omega
    rw [List.getElem?_append_right (by simp; omega)]
    rw [List.getElem?_eq_none (Nat.le_of_not_lt h2)]
    simp [optD, e]
theorem tail_eq (f : G1) (l : List Int) (hl : l.length ≤ 1000) (c : Nat) (hc9 : c < 11) (hc0 : c ≠ 0) (ρ : Rho) (hρ : ρ.length = 11) (x : DV) (h0 : ρ[0]? = some (some x)) (μ : List Cel) (hc : Clo μ) (hf : f x μ = .ok (.d (.tup (intsDat l))) μ) :
    e2 addD (eLc [c] (iSeq (eSl (e1 f (eV 0)) (oS (eK (.int 1))) oN)) (gN c) tTrue (e2 subD (eV c) (eK (.int 1)))) (eN eLstD (as1 (eK .non) as0)) ρ μ = .ok (.d (.lst (tailD l))) μ := by
  have hs : iSeq (eSl (e1 f (eV 0)) (oS (eK (.int 1))) oN) ρ μ = .ok ((l.drop 1).map .int) μ := by
    have e1' : e1 f (eV 0) ρ μ = .ok (.d (.tup (intsDat l))) μ := e1_ok (eV_ok h0) hf
    unfold iSeq eSl oS oN
    rw [e1', bind_ok, eK_ok]
    simp only [bind_ok, slD, toI, cut_tail]
    rw [show (intsDat l).drop 1 = intsDat (l.drop 1) by simp [intsDat]]
    rw [if_pos (blT_ints _)]
    rfl
  have hm := eLc_map (own := [c]) (it := iSeq (eSl (e1 f (eV 0)) (oS (eK (.int 1))) oN)) (g := gN c) (e := e2 subD (eV c) (eK (.int 1))) (ρ := ρ) hc hs (by simp only [List.length_map, List.length_drop]; exact lim1000 (by omega)) (fun d => match d with | .int x => .int (x - 1) | d => d) fun d hd acc => by
    obtain ⟨y, hy, rfl⟩ := List.mem_map.mp hd
    refine ⟨(wipeR ρ [c]).set c (some (.d (.int y))), _, rfl, ?_⟩
    refine e2_ok (eV_ok (x := .d (.int y)) ?_) eK_ok (by simp [subD, okD])
    rw [List.getElem?_set_self (by rw [wipeR_length, hρ]; exact hc9)]
  refine e2_ok hm (y := .d (.lst [.non])) (μ2 := μ) ?_ ?_
  · have l1 : (1 : Nat) ≤ LIM := by decide
    simp [eN, as1, as0, eK, eLstD, dats, l1, okD]
  · simp only [List.map_map, Function.comp_def]
    exact addL (by simp only [List.length_map, List.length_drop, List.length_cons, List.length_nil]; exact lim1000' (by omega))
theorem row_at (r : List Bool) (j : Nat) (h : j < r.length) (μ : List Cel) : ixD (.d (rowD r)) (.d (.int (j : Nat))) μ = .ok (.d (.bl (r.getD j false))) μ := by
  simp only [ixD, rowD]
  rw [atI_nat _ j (by simpa [blsDat] using h)]
  simp [blsDat, ofO, okD, List.getD, h]
theorem int_at (l : List Int) (j : Nat) (h : j < l.length) (μ : List Cel) : ixD (.d (.tup (intsDat l))) (.d (.int (j : Nat))) μ = .ok (.d (.int (l.getD j 0))) μ := by
  simp only [ixD]
  rw [atI_nat _ j (by simpa [intsDat] using h)]
  simp [intsDat, ofO, okD, List.getD, h]
theorem eq_int (a b : Int) (μ : List Cel) : eqB (.d (.int a)) (.d (.int b)) μ = .ok (.d (.bl (a == b))) μ := by
  simp [eqB, shal, eqD, okD]
abbrev tFst : TX := tAndX (tTru (eV 8)) (tOrX (tBool (e2 eqB (eV 7) (eK (.int 0)))) (tNotX (tTru (e2 ixD (eV 6) (e2 subD (eV 7) (eK (.int 1)))))))
abbrev tLst : TX := tAndX (tTru (eV 8)) (tOrX (tBool (e2 eqB (e2 addD (eV 7) (eK (.int 1))) (eN lenG (as1 (eV 6) as0)))) (tNotX (tTru (e2 ixD (eV 6) (e2 addD (eV 7) (eK (.int 1)))))))
theorem fst_ok {ρ : Rho} {μ : List Cel} {r : List Bool} {j : Nat} (h6 : ρ[6]? = some (some (.d (rowD r)))) (h7 : ρ[7]? = some (some (.d (.int (j : Nat))))) (h8 : ρ[8]? = some (some (.d (.bl (r.getD j false))))) (hj : j < r.length) :
    tFst ρ μ = .ok (runB r j) μ := by
  refine tAnd_b (tT_ok (eV_ok h8)) fun _ => ?_
  have z : ((j : Int) == 0) = (j == 0) := by
    cases j with
    | zero => rfl
    | succ n => simp; omega
  rw [← z]
  refine tOr_b (tB_ok (e2_ok (eV_ok h7) eK_ok (eq_int _ _ _))) fun q => ?_
  have hp : 0 < j := by
    cases j with
    | zero => simp at q
    | succ j => omega
  refine tN_ok (tT_ok (e2_ok (eV_ok h6) (e2_ok (eV_ok h7) eK_ok (r := .ok (.d (.int ((j - 1 : Nat) : Int))) μ) ?_) (row_at r (j - 1) (by omega) μ)))
  simp only [subD, okD]
  rw [show ((j - 1 : Nat) : Int) = (j : Int) - 1 by omega]
theorem lst_ok {ρ : Rho} {μ : List Cel} {r : List Bool} {j : Nat} (h6 : ρ[6]? = some (some (.d (rowD r)))) (h7 : ρ[7]? = some (some (.d (.int (j : Nat))))) (h8 : ρ[8]? = some (some (.d (.bl (r.getD j false))))) (hj : j < r.length) :
    tLst ρ μ = .ok (lastB r j) μ := by
  have e : lastB r j = (r.getD j false && ((((j + 1 : Nat) : Int) == (r.length : Nat)) || !r.getD (j + 1) false)) := by
    unfold lastB
    by_cases q : j + 1 = r.length
    · have : r.getD (j + 1) false = false := by simp [q]
      rw [this, q]
      simp
    · have : ((((j + 1 : Nat) : Int)) == (r.length : Nat)) = false := by simp; omega
      rw [this]
      simp
  rw [e]
  refine tAnd_b (tT_ok (eV_ok h8)) fun _ => ?_
  have ha : e2 addD (eV 7) (eK (.int 1)) ρ μ = .ok (.d (.int ((j + 1 : Nat) : Int))) μ := e2_ok (eV_ok h7) eK_ok (by simp [addD, okD])
  refine tOr_b (tB_ok (e2_ok ha (eN1_ok (eV_ok h6) (r := .ok (.d (.int (r.length : Nat))) μ) (by simp [lenG, lenN, rowD, blsDat, okD])) (eq_int _ _ _))) fun q => ?_
  have hp : j + 1 < r.length := by
    have : ¬ ((j + 1 : Nat) : Int) = (r.length : Nat) := by simpa using q
    omega
  exact tN_ok (tT_ok (e2_ok (eV_ok h6) ha (row_at r (j + 1) hp μ)))
abbrev yIn : YX := ySeq (yPl (sIf tFst (sSeq (sAsg (e2 ixD (e1 (propG 23 g_Sizes_widths) (eV 0)) (eV 7)) (gN 3)) sSkip) sSkip))
    (ySeq (yIf tLst (ySeq (yYield (eN eTupD (as1 (eV 4) (as1 (eV 5) (as1 (eV 3) (as1 (e2 ixD (eV 2) (eV 7)) as0)))))) ySkip) ySkip) ySkip)
abbrev gIn : GX := gT 2 (gsC (gN 7) (gsC (gN 8) gsN))
theorem prop_ok {f : Gn} {v : Dat} {ρ : Rho} {μ : List Cel} {g : Gr} (h0 : ρ[0]? = some (some (.d (insG g)))) (h : f [.d (insG g)] μ = .ok (.d v) μ) : e1 (propG 23 f) (eV 0) ρ μ = .ok (.d v) μ := by
  refine e1_ok (eV_ok h0) ?_
  unfold propG
  rw [if_pos (show insC (.d (insG g)) μ = some 23 from rfl), h]
  rfl
/-- one row -/
theorem row_loop (g : Gr) (k : Nat) (r : List Bool) (hr : r.length = g.ws.length) (hw : g.ws.length ≤ 1000) (μ : List Cel) (hc : Clo μ) (lo hi : Dat) (hlo : lo = .int (g.hs.getD k 0)) (hhi : hi = optD (endA g.hs k)) (tops : Dat) (z0 : List Dat) (hz0 : z0.length ≤ 1000000)
    (b0 x7 x8 : Option DV) (bg : Dat) {N : List Dat → Rho → List Cel → Prop}
    (hN : ∀ bg' x7' x8', N (z0 ++ (rowBx g.hs g.ws k r r.length).map bxD) [some (.d (insG g)), some (.d tops), some (.d (.lst (tailD g.ws))), some (.d bg'), some (.d lo), some (.d hi), some (.d (rowD r)), x7', x8', none, none] μ) :
    WY (yForL gIn yIn (enumD 0 (blsDat r)) z0 [some (.d (insG g)), some (.d tops), some (.d (.lst (tailD g.ws))), some (.d bg), some (.d lo), some (.d hi), some (.d (rowD r)), x7, x8, none, none] μ) N := by
  subst hlo hhi
  rw [show blsDat r = r.map .bl from rfl, enumD_map]
  refine wy_forI (fun p : Bool × Nat => .tup [.int (p.2 : Nat), .bl p.1]) (fun pre zs ρ μ' => μ = μ' ∧ zs = z0 ++ (rowBx g.hs g.ws k r pre.length).map bxD ∧ ∃ bg' x7' x8', (0 < pre.length → r.getD (pre.length - 1) false = true → bg' = .int (begA g.ws r (pre.length - 1))) ∧
    ρ = [some (.d (insG g)), some (.d tops), some (.d (.lst (tailD g.ws))), some (.d bg'), some (.d (.int (g.hs.getD k 0))), some (.d (optD (endA g.hs k))), some (.d (rowD r)), x7', x8', none, none]) (r.zipIdx 0) ?_ ?_ ?_
  · exact ⟨rfl, by simp [rowBx], bg, x7, x8, fun h => absurd h (by simp), rfl⟩
  · rintro pre ⟨b, i⟩ post zs ρ _ e ⟨rfl, rfl, bg', x7', x8', hb, rfl⟩
    have hi : i = pre.length ∧ i < r.length ∧ r.getD i false = b := by
      have q : (r.zipIdx 0)[pre.length]? = some (b, i) := by rw [e]; simp
      rw [List.getElem?_zipIdx] at q
      obtain ⟨a, ha, hb⟩ := Option.map_eq_some_iff.mp q
      have h1 : a = b := congrArg Prod.fst hb
      have h2 : 0 + pre.length = i := congrArg Prod.snd hb
      have hq := (List.getElem?_eq_some_iff.mp ha).1
      refine ⟨by omega, by omega, ?_⟩
      rw [← h2, Nat.zero_add, List.getD_eq_getElem?_getD, ha]
      exact h1
    obtain ⟨hi1, hi2, rfl⟩ := hi
    rw [← hi1]
    rw [← hi1] at hb
    show WS (gIn (.d (.tup [.int (i : Nat), .bl (r.getD i false)])) _ _) _ _ _
    rw [show gIn = gT 2 (gsC (gN 7) (gsC (gN 8) gsN)) from rfl, pat2 (n := 0)]
    show WY (yIn _ _ _) _
    generalize eR : ((([some (DV.d (insG g)), some (DV.d tops), some (DV.d (Dat.lst (tailD g.ws))), some (DV.d bg'), some (DV.d (Dat.int (g.hs.getD k 0))), some (DV.d (optD (endA g.hs k))), some (DV.d (rowD r)), x7', x8', none, none] : Rho).set 7 (some (.d (.int (i : Nat))))).set 8 (some (.d (.bl (r.getD i false))))) = R
    have eR' : R = [some (.d (insG g)), some (.d tops), some (.d (.lst (tailD g.ws))), some (.d bg'), some (.d (.int (g.hs.getD k 0))), some (.d (optD (endA g.hs k))), some (.d (rowD r)), some (.d (.int (i : Nat))), some (.d (.bl (r.getD i false))), none, none] := by rw [← eR]; rfl
    rw [wy_seq, wy_pl]
    have hf := fst_ok (ρ := R) (μ := μ) (r := r) (j := i) (by rw [eR']; rfl) (by rw [eR']; rfl) (by rw [eR']; rfl) hi2
    have hwd : e2 ixD (e1 (propG 23 g_Sizes_widths) (eV 0)) (eV 7) R μ = .ok (.d (.int (g.ws.getD i 0))) μ :=
      e2_ok (prop_ok (g := g) (by rw [eR']; rfl) (widths_eq g μ)) (eV_ok (by rw [eR']; rfl)) (int_at _ _ (by omega) μ)
    -- the beginning
    obtain ⟨bg2, hbg2, hR2⟩ : ∃ bg2 : Dat, (r.getD i false = true → bg2 = .int (begA g.ws r i)) ∧ ∀ {N' : Rho → List Cel → Prop}, N' (R.set 3 (some (.d bg2))) μ → WS (sIf tFst (sSeq (sAsg (e2 ixD (e1 (propG 23 g_Sizes_widths) (eV 0)) (eV 7)) (gN 3)) sSkip) sSkip R μ) N' (fun _ _ => False) (fun _ _ _ => False) := by
      by_cases hq : runB r i = true
      · refine ⟨.int (g.ws.getD i 0), fun _ => ?_, fun {N'} hN' => ?_⟩
        · unfold runB at hq
          cases i with
          | zero => rfl
          | succ i =>
            have : r.getD i false = false := by
              simp at hq
              simpa using hq.2
            simp only [begA, this]
            simp
        · unfold sIf
          rw [hf, hq]
          show WS (sSeq (sAsg (e2 ixD (e1 (propG 23 g_Sizes_widths) (eV 0)) (eV 7)) (gN 3)) sSkip R μ) _ _ _
          rw [st_set hwd]
          exact hN'
      · refine ⟨bg', fun ht => ?_, fun {N'} hN' => ?_⟩
        · have hq' : runB r i = false := by simpa using hq
          unfold runB at hq'
          rw [ht] at hq'
          cases i with
          | zero => simp at hq'
          | succ i =>
            have hp : r.getD i false = true := by simpa using hq'
            rw [hb (by omega) hp]
            simp only [begA, hp, Nat.add_sub_cancel]
            simp
        · unfold sIf
          rw [hf, show runB r i = false by simpa using hq]
          show WS (sSkip R μ) _ _ _
          rw [show R.set 3 (some (.d bg')) = R by rw [eR']; rfl] at hN'
          exact hN'
    refine hR2 ?_
    generalize eS : R.set 3 (some (.d bg2)) = S
    have eS' : S = [some (.d (insG g)), some (.d tops), some (.d (.lst (tailD g.ws))), some (.d bg2), some (.d (.int (g.hs.getD k 0))), some (.d (optD (endA g.hs k))), some (.d (rowD r)), some (.d (.int (i : Nat))), some (.d (.bl (r.getD i false))), none, none] := by rw [← eS, eR']; rfl
    rw [wy_seq, wy_if (lst_ok (r := r) (j := i) (by rw [eS']; rfl) (by rw [eS']; rfl) (by rw [eS']; rfl) hi2)]
    have hlen := rowBx_len g.hs g.ws k r i
    have fin : ∀ zs, zs = z0 ++ (rowBx g.hs g.ws k r (i + 1)).map bxD → WY (ySkip zs S μ) (fun zs ρ μ' => μ = μ' ∧ zs = z0 ++ (rowBx g.hs g.ws k r (pre ++ [(r.getD i false, i)]).length).map bxD ∧ ∃ bg' x7' x8', (0 < (pre ++ [(r.getD i false, i)]).length → r.getD ((pre ++ [(r.getD i false, i)]).length - 1) false = true → bg' = .int (begA g.ws r ((pre ++ [(r.getD i false, i)]).length - 1))) ∧
        ρ = [some (.d (insG g)), some (.d tops), some (.d (.lst (tailD g.ws))), some (.d bg'), some (.d (.int (g.hs.getD k 0))), some (.d (optD (endA g.hs k))), some (.d (rowD r)), x7', x8', none, none]) := fun zs hzs => by
      rw [wy_skip]
      have ep : (pre ++ [(r.getD i false, i)]).length = i + 1 := by simp [hi1]
      rw [ep]
      exact ⟨rfl, hzs, bg2, _, _, fun _ h => hbg2 (by simpa using h), eS'⟩
    by_cases hq : lastB r i = true
    · rw [if_pos hq, wy_seq]
      have ht : eN eTupD (as1 (eV 4) (as1 (eV 5) (as1 (eV 3) (as1 (e2 ixD (eV 2) (eV 7)) as0)))) S μ = .ok (.d (bxD ⟨g.hs.getD k 0, endA g.hs k, begA g.ws r i, endA g.ws i⟩)) μ := by
        have hx : e2 ixD (eV 2) (eV 7) S μ = .ok (.d (optD (endA g.ws i))) μ := e2_ok (eV_ok (x := .d (.lst (tailD g.ws))) (by rw [eS']; rfl)) (eV_ok (x := .d (.int (i : Nat))) (by rw [eS']; rfl)) (by
          simp only [ixD]
          rw [tail_at _ _ (by omega)]
          rfl)
        have h4 : eV 4 S μ = .ok (.d (.int (g.hs.getD k 0))) μ := eV_ok (by rw [eS']; rfl)
        have h5 : eV 5 S μ = .ok (.d (optD (endA g.hs k))) μ := eV_ok (by rw [eS']; rfl)
        have h3 : eV 3 S μ = .ok (.d (.int (begA g.ws r i))) μ := by
          rw [← hbg2 (by unfold lastB at hq; simp at hq; simpa using hq.1)]
          exact eV_ok (by rw [eS']; rfl)
        have l4 : 0 + 1 + 1 + 1 + 1 ≤ LIM := by decide
        unfold eN as1 as0
        rw [h4, bind_ok, h5, bind_ok, h3, bind_ok, hx]
        simp [eTupD, dats, okD, bxD, l4, blT, isBl]
      rw [wy_out (by
        rw [List.length_append, List.length_map]
        exact Nat.lt_of_le_of_lt (Nat.add_le_add hz0 (Nat.le_trans hlen (by omega : i ≤ 1000))) (by decide)) ht, wy_skip, wy_skip]
      have q := fin (z0 ++ (rowBx g.hs g.ws k r i).map bxD ++ [bxD ⟨g.hs.getD k 0, endA g.hs k, begA g.ws r i, endA g.ws i⟩]) (by
        rw [rowBx_succ, if_pos hq]
        simp)
      rw [wy_skip] at q
      exact q
    · rw [show lastB r i = false by simpa using hq]
      simp only [Bool.false_eq_true, if_false]
      rw [wy_skip]
      refine fin _ ?_
      rw [rowBx_succ, if_neg hq]
      simp
  · rintro zs ρ _ ⟨rfl, rfl, bg', x7', x8', _, rfl⟩
    rw [show (r.zipIdx 0).length = r.length by simp]
    exact hN bg' x7' x8'
theorem pat3 {i j k : Nat} (a b c : Dat) (ρ : Rho) (μ : List Cel) : gT 3 (gsC (gN i) (gsC (gN j) (gsC (gN k) gsN))) (.d (.tup [a, b, c])) ρ μ = .nx (((ρ.set i (some (.d a))).set j (some (.d b))).set k (some (.d c))) μ := by
  simp [gT, gsC, gN, gsN]
def triD (hs : List Int) (p : List Bool × Nat) : Dat := .tup [.int (hs.getD p.2 0), optD (endA hs p.2), rowD p.1]
theorem zip3_rows (hs : List Int) (t : List (List Bool)) (hl : hs.length = t.length) (h0 : 0 < hs.length) : zip3D (intsDat hs) (tailD hs) (t.map rowD) = (t.zipIdx 0).map (triD hs) := by
  have hz : (tailD hs).length = hs.length := by simp [tailD]; omega
  apply List.ext_getElem?
  intro i
  by_cases h : i < t.length
  · have hi : i < hs.length := by omega
    rw [zip3D_get i _ _ _ (.int (hs.getD i 0)) (optD (endA hs i)) (rowD t[i])]
    · simp [List.getElem?_zipIdx, h, triD]
    · simp [intsDat, hi]
    · have q := tail_at hs i hi
      rw [atI_nat _ i (by omega)] at q
      rw [List.getElem?_eq_getElem (by omega)]
      exact q
    · simp [h]
  · rw [List.getElem?_eq_none, List.getElem?_eq_none]
    · simp; omega
    · rw [zip3D_len]; simp [intsDat]; omega
theorem zip3B_rows (hs : List Int) (t : List (List Bool)) (hl : hs.length = t.length) (h0 : 0 < hs.length) : zip3B (intsDat hs) (tailD hs) (t.map rowD) = true := by
  unfold zip3B
  rw [zip3_rows hs t hl h0, List.all_eq_true]
  intro d hd
  obtain ⟨p, _, rfl⟩ := List.mem_map.mp hd
  simp [triD, blT, isBl]
structure Gk (g : Gr) : Prop where
  hl : g.hs.length = g.t.length
  rl : ∀ r ∈ g.t, r.length = g.ws.length
  h0 : 0 < g.hs.length
  h1 : g.hs.length ≤ 1000
  w1 : g.ws.length ≤ 1000
theorem due_small {g : Gr} (G : Gk g) (t : List (List Bool)) (h : t.length ≤ 1000) (ht : ∀ r ∈ t, r ∈ g.t) : (dueL g.hs g.ws t 0).length ≤ 1000000 := by
  obtain ⟨m, hm⟩ : ∃ m : Nat, m = 1000 := ⟨_, rfl⟩
  have hz := dueL_len g.hs g.ws m t 0 fun y hy => by have := G.rl y (ht y hy); have := G.w1; omega
  have q := Nat.mul_le_mul_right m h
  have q2 : 1000 * m = 1000000 := by rw [hm]
  omega
theorem boxes_wy {g : Gr} (G : Gk g) (μ : List Cel) (hc : Clo μ) : WY (y_Sizes_boxes [] (rho0 11 [.d (insG g)]) μ) (fun zs _ μ' => zs = (dueBx g).map bxD ∧ ∃ ν, μ' = μ ++ ν) := by
  have r0 : rho0 11 [.d (insG g)] = [some (.d (insG g)), none, none, none, none, none, none, none, none, none, none] := rfl
  rw [r0]
  unfold y_Sizes_boxes
  rw [wy_seq, wy_set (tail_eq (propG 23 g_Sizes_heights) g.hs G.h1 9 (by decide) (by decide) _ rfl _ rfl μ hc (by
    unfold propG
    rw [if_pos (show insC (.d (insG g)) μ = some 23 from rfl), heights_eq]
    rfl))]
  rw [wy_seq, wy_set (tail_eq (propG 23 g_Sizes_widths) g.ws G.w1 10 (by decide) (by decide) _ rfl _ rfl μ hc (by
    unfold propG
    rw [if_pos (show insC (.d (insG g)) μ = some 23 from rfl), widths_eq]
    rfl))]
  rw [wy_seq, wy_set eK_ok, wy_seq]
  simp only [List.set]
  have hz : iZip3 (e1 (propG 23 g_Sizes_heights) (eV 0)) (eV 1) (e1 (propG 23 g_Sizes_table) (eV 0)) [some (.d (insG g)), some (.d (.lst (tailD g.hs))), some (.d (.lst (tailD g.ws))), some (.d (.int 1)), none, none, none, none, none, none, none] μ = .ok ((g.t.zipIdx 0).map (triD g.hs)) μ := by
    unfold iZip3
    rw [prop_ok (g := g) rfl (heights_eq g μ), bind_ok, eV_ok (x := .d (.lst (tailD g.hs))) rfl, bind_ok, prop_ok (g := g) rfl (table_eq g μ), bind_ok]
    simp only [zip3M]
    rw [if_pos (zip3B_rows g.hs g.t G.hl G.h0), zip3_rows g.hs g.t G.hl G.h0]
    rfl
  rw [wy_for hz]
  refine wy_forI (triD g.hs) (fun pre zs ρ μ' => μ = μ' ∧ zs = (dueL g.hs g.ws (pre.map (·.1)) 0).map bxD ∧ ∃ bg x4 x5 x6 x7 x8, ρ = [some (.d (insG g)), some (.d (.lst (tailD g.hs))), some (.d (.lst (tailD g.ws))), some (.d bg), x4, x5, x6, x7, x8, none, none]) (g.t.zipIdx 0) ?_ ?_ ?_
  · exact ⟨rfl, rfl, _, _, _, _, _, _, rfl⟩
  · rintro pre ⟨r, k⟩ post zs ρ _ e ⟨rfl, rfl, bg, x4, x5, x6, x7, x8, rfl⟩
    have hpre : pre.map (·.1) ++ r :: post.map (·.1) = g.t := by
      have := congrArg (List.map (·.1)) e
      simpa using this.symm
    have hk : 0 + pre.length = k := by
      have q : (g.t.zipIdx 0)[pre.length]? = some (r, k) := by rw [e]; simp
      rw [List.getElem?_zipIdx] at q
      obtain ⟨a, ha, hb⟩ := Option.map_eq_some_iff.mp q
      exact congrArg Prod.snd hb
    have hr : r ∈ g.t := by rw [← hpre]; simp
    have hs : (dueL g.hs g.ws (pre.map (·.1)) 0).length ≤ 1000000 := due_small G _ (by
      have := congrArg List.length hpre
      have h1 := G.h1
      have h2 := G.hl
      simp at this ⊢
      omega) fun q hq => by rw [← hpre]; exact List.mem_append_left _ hq
    show WS (gT 3 (gsC (gN 4) (gsC (gN 5) (gsC (gN 6) gsN))) (.d (.tup [.int (g.hs.getD k 0), optD (endA g.hs k), rowD r])) _ _) _ _ _
    rw [pat3]
    show WY _ _
    simp only [List.set]
    have he : iEnumX (eV 6) [some (.d (insG g)), some (.d (.lst (tailD g.hs))), some (.d (.lst (tailD g.ws))), some (.d bg), some (.d (.int (g.hs.getD k 0))), some (.d (optD (endA g.hs k))), some (.d (rowD r)), x7, x8, none, none] μ = .ok (enumD 0 (blsDat r)) μ := by
      unfold iEnumX
      rw [eV_ok (x := .d (rowD r)) rfl]
      rfl
    rw [wy_seq, wy_for he]
    refine row_loop g k r (G.rl r hr) G.w1 μ hc _ _ rfl rfl (.lst (tailD g.hs)) _ (by rw [List.length_map]; exact hs) none x7 x8 bg fun bg' x7' x8' => ?_
    rw [wy_skip]
    refine ⟨rfl, ?_, bg', _, _, _, _, _, rfl⟩
    rw [List.map_append, List.map_singleton, dueL_snoc, List.map_append, List.length_map, Nat.zero_add]
    rw [Nat.zero_add] at hk
    rw [hk]
  · rintro zs ρ _ ⟨rfl, rfl, _⟩
    rw [wy_skip]
    refine ⟨?_, [], by simp⟩
    simp [dueBx]
theorem boxes_ok {g : Gr} (G : Gk g) (μ : List Cel) (hc : Clo μ) {ρ : Rho} {i : Nat} (h : ρ[i]? = some (some (.d (insG g)))) : eGenM 23 11 y_Sizes_boxes (eV i) ρ μ = .ok (.d (.lst ((dueBx g).map bxD))) μ :=
  genM_ok (eV_ok h) rfl hc (by
    rw [List.length_map]
    exact Nat.le_trans (due_small G g.t (by have := G.hl; have := G.h1; omega) fun _ h => h) (by decide)) (boxes_wy G μ hc)
end DL.K05
set_option linter.all false
set_option maxRecDepth 100000
set_option maxHeartbeats 4000000
namespace DL.K05
open PySem PySem.Spec PyProof.Rows L2 DL
def plD (a b c : Int) : Cel := .lst [.int a, .int b, .int c]
def Pool (μ : List Cel) (n : Nat) : Prop := ∃ a b c, μ[n]? = some (plD a b c) ∧ 0 ≤ a ∧ a < 2147483399 ∧ 0 ≤ b
/-- the pool at n has moved on -/
def PS (n : Nat) (μ μ' : List Cel) : Prop := n < μ.length ∧ ∃ a b c, μ' = μ.set n (plD a b c) ∧ 0 ≤ a ∧ a < 2147483399 ∧ 0 ≤ b
theorem PS.len {n : Nat} {μ μ' : List Cel} (h : PS n μ μ') : μ'.length = μ.length := by obtain ⟨_, a, b, c, e, _⟩ := h; rw [e]; simp
theorem PS.pool {n : Nat} {μ μ' : List Cel} (h : PS n μ μ') : Pool μ' n := by
  obtain ⟨hn, a, b, c, e, q⟩ := h
  exact ⟨a, b, c, by rw [e]; simp [hn], q⟩
theorem PS.trans {n : Nat} {μ μ1 μ2 : List Cel} (h : PS n μ μ1) (k : PS n μ1 μ2) : PS n μ μ2 := by
  obtain ⟨hn, a, b, c, e, q⟩ := h
  obtain ⟨_, a2, b2, c2, e2, q2⟩ := k
  exact ⟨hn, a2, b2, c2, by rw [e2, e]; simp, q2⟩
theorem Pool.refl {n : Nat} {μ : List Cel} (h : Pool μ n) : PS n μ μ := by
  obtain ⟨a, b, c, e, q⟩ := h
  obtain ⟨hn, e2⟩ := List.getElem?_eq_some_iff.mp e
  exact ⟨hn, a, b, c, by rw [← e2]; simp, q⟩
theorem PS.clo {n : Nat} {μ μ' : List Cel} (h : PS n μ μ') (hc : Clo μ) : Clo μ' := by
  obtain ⟨_, a, b, c, e, _⟩ := h
  rw [e]
  exact hc.set n _
theorem px (n : Nat) (μ : List Cel) (x y z : Int) (ρ : Rho) (h : ρ[0]? = some (some (.c n))) (h2 : μ[n]? = some (plD x y z)) :
    e2 ixD (eV 0) (eK (.int 0)) ρ μ = .ok (.d (.int x)) μ ∧ e2 ixD (eV 0) (eK (.int 1)) ρ μ = .ok (.d (.int y)) μ ∧ e2 ixD (eV 0) (eK (.int 2)) ρ μ = .ok (.d (.int z)) μ := by
  refine ⟨e2_ok (eV_ok h) eK_ok ?_, e2_ok (eV_ok h) eK_ok ?_, e2_ok (eV_ok h) eK_ok ?_⟩ <;> simp [ixD, h2, plD, atI, ixN, ofO, okD]
theorem pset (n : Nat) (μ : List Cel) (x y z v : Int) (ρ : Rho) (h : ρ[0]? = some (some (.c n))) (h2 : μ[n]? = some (plD x y z)) :
    gIx (eV 0) (eK (.int 0)) (.d (.int v)) ρ μ = .nx ρ (μ.set n (plD v y z)) ∧ gIx (eV 0) (eK (.int 1)) (.d (.int v)) ρ μ = .nx ρ (μ.set n (plD x v z)) ∧ gIx (eV 0) (eK (.int 2)) (.d (.int v)) ρ μ = .nx ρ (μ.set n (plD x y v)) := by
  refine ⟨?_, ?_, ?_⟩ <;> (unfold gIx; rw [eV_ok h, osbind_ok, eK_ok, osbind_ok]; simp [setIx, h2, plD, ixN])
theorem draw_eq (n : Nat) (m : Int) (hm : 1 ≤ m) (hm2 : m < 1073741824) (μ : List Cel) (hp : Pool μ n) : ∃ r μ', g__law_draw [.c n, .d (.int m)] μ = .ok (.d (.int r)) μ' ∧ 0 ≤ r ∧ r < m ∧ PS n μ μ' := by
  obtain ⟨a, b, c, e, ha, ha2, hb⟩ := hp
  obtain ⟨hn, e'⟩ := List.getElem?_eq_some_iff.mp e
  have at_ : ∀ (x y z : Int), (μ.set n (plD x y z))[n]? = some (plD x y z) := fun x y z => by simp [hn]
  have ss : ∀ (p q : Cel), (μ.set n p).set n q = μ.set n q := fun p q => by simp
  have r0 : (rho0 4 [.c n, .d (.int m)])[0]? = some (some (.c n)) := by simp [rho0]
  have r2 : ((rho0 4 [.c n, .d (.int m)]).set 2 (some (.d (.int a))))[0]? = some (some (.c n)) := by simp [rho0]
  have v2 : ((rho0 4 [.c n, .d (.int m)]).set 2 (some (.d (.int a))))[2]? = some (some (.d (.int a))) := by simp [rho0]
  have v1 : ((rho0 4 [.c n, .d (.int m)]).set 2 (some (.d (.int a))))[1]? = some (some (.d (.int m))) := by simp [rho0]
  generalize hA : (a * (a % 44017 + 27011) + 70001 * (c + 1) + 13) % 2147483399 = A
  have A0 : 0 ≤ A := by rw [← hA]; exact Int.emod_nonneg _ (by decide)
  have A1 : A < 2147483399 := by rw [← hA]; exact Int.emod_lt_of_pos _ (by decide)
  have s1 := st_asg (e := e2 addD (e2 ixD (eV 0) (eK (.int 2))) (eK (.int 1))) (g := gIx (eV 0) (eK (.int 2))) (ρ := rho0 4 [.c n, .d (.int m)]) (μ := μ) (v := .d (.int (c + 1))) (b := sSeq (sAsg (eN intG (as1 (e2 ixD (eV 0) (eK (.int 0))) as0)) (gN 2))
    (sSeq (sAsg (e2 modD (eN intG (as1 (e2 addD (e2 addD (e2 mulD (eV 2) (e2 addD (e2 modD (eV 2) (eK (.int 44017))) (eK (.int 27011)))) (e2 mulD (eK (.int 70001)) (e2 ixD (eV 0) (eK (.int 2))))) (eK (.int 13))) as0)) (eK (.int 2147483399))) (gIx (eV 0) (eK (.int 0))))
    (sSeq (sIf (tBool (e2 gtD (e2 ixD (eV 0) (eK (.int 1))) (eK (.int 0)))) (sSeq (sAsg (eN divmodG (as1 (e2 ixD (eV 0) (eK (.int 1))) (as1 (eV 1) as0))) (gT 2 (gsC (gIx (eV 0) (eK (.int 1))) (gsC (gN 3) gsN))))
    (sSeq (sRet (eV 3))
    sSkip)) sSkip)
    (sSeq (sRet (e2 modD (eN intG (as1 (e2 fdivD (e2 ixD (eV 0) (eK (.int 0))) (eK (.int 32))) as0)) (eV 1)))
    sSkip)))) (e2_ok (px n μ a b c _ r0 e).2.2 eK_ok (by simp [addD, okD])) (pset n μ a b c (c + 1) _ r0 e).2.2
  have hmul : ∀ μ', mulD (.d (.int a)) (.d (.int (a % 44017 + 27011))) μ' = .ok (.d (.int (a * (a % 44017 + 27011)))) μ' := fun μ' => by
    simp only [mulD]
    rw [if_pos (.inl ⟨by omega, by omega⟩)]
    rfl
  have hmul2 : ∀ μ', mulD (.d (.int 70001)) (.d (.int (c + 1))) μ' = .ok (.d (.int (70001 * (c + 1)))) μ' := fun μ' => by
    simp only [mulD]
    rw [if_pos (.inl ⟨by decide, by decide⟩)]
    rfl
  have hfin : ∃ r μ', b__law_draw (rho0 4 [.c n, .d (.int m)]) μ = .rt (.d (.int r)) μ' ∧ 0 ≤ r ∧ r < m ∧ PS n μ μ' := by
    unfold b__law_draw
    rw [s1]
    have p1 := px n _ a b (c + 1) _ r0 (at_ a b (c + 1))
    rw [st_set (v := .d (.int a)) (μ' := (μ.set n (plD a b (c + 1)))) (eN1_ok p1.1 (by simp [intG, okD]))]
    have p2 := px n _ a b (c + 1) _ r2 (at_ a b (c + 1))
    rw [st_asg (v := .d (.int A)) (μ' := (μ.set n (plD a b (c + 1)))) (e2_ok (eN1_ok (e2_ok (e2_ok (e2_ok (eV_ok v2) (e2_ok (e2_ok (eV_ok v2) eK_ok (r := .ok (.d (.int (a % 44017))) (μ.set n (plD a b (c + 1)))) (by simp [modD, okD])) eK_ok (r := .ok (.d (.int (a % 44017 + 27011))) (μ.set n (plD a b (c + 1)))) (by simp [addD, okD])) (hmul _)) (e2_ok eK_ok p2.2.2 (hmul2 _)) (r := .ok (.d (.int (a * (a % 44017 + 27011) + 70001 * (c + 1)))) (μ.set n (plD a b (c + 1)))) (by simp [addD, okD])) eK_ok (r := .ok (.d (.int (a * (a % 44017 + 27011) + 70001 * (c + 1) + 13))) (μ.set n (plD a b (c + 1)))) (by simp [addD, okD])) (r := .ok (.d (.int (a * (a % 44017 + 27011) + 70001 * (c + 1) + 13))) (μ.set n (plD a b (c + 1)))) (by simp [intG, okD])) eK_ok (by simp [modD, okD, hA])) (pset n _ a b (c + 1) A _ r2 (at_ a b (c + 1))).1]
    rw [ss]
    have p3 := px n _ A b (c + 1) _ r2 (at_ A b (c + 1))
    by_cases hb0 : 0 < b
    · rw [st_if1 (μ' := (μ.set n (plD A b (c + 1)))) (tB_ok (e2_ok p3.2.1 eK_ok (by simp [gtD, okD, hb0])))]
      have dm : (0 : Int) < m := by omega
      rw [st_asg (v := .d (.tup [.int (b / m), .int (b % m)])) (μ' := μ.set n (plD A b (c + 1))) (ρ' := ((rho0 4 [.c n, .d (.int m)]).set 2 (some (.d (.int a)))).set 3 (some (.d (.int (b % m))))) (μ2 := μ.set n (plD A (b / m) (c + 1))) (eN2_ok p3.2.1 (eV_ok v1) (by simp [divmodG, okD, dm, hm2])) (by
        simp only [gT, gsC, List.length_cons, List.length_nil, if_true, (pset n _ A b (c + 1) (b / m) _ r2 (at_ A b (c + 1))).2.1, sbind_nx, gN, ss]
        rfl)]
      refine ⟨b % m, μ.set n (plD A (b / m) (c + 1)), by rw [st_ret (eV_ok (x := .d (.int (b % m))) (by simp [rho0]))]; rfl, Int.emod_nonneg _ (by omega), Int.emod_lt_of_pos _ dm, hn, _, _, _, rfl, A0, A1, Int.ediv_nonneg hb (by omega)⟩
    · rw [st_iff (μ' := (μ.set n (plD A b (c + 1)))) (tB_ok (e2_ok p3.2.1 eK_ok (by simp [gtD, okD, hb0])))]
      refine ⟨(A / 32) % m, (μ.set n (plD A b (c + 1))), st_ret (e2_ok (eN1_ok (e2_ok p3.1 eK_ok (r := .ok (.d (.int (A / 32))) (μ.set n (plD A b (c + 1)))) (by simp [fdivD, okD])) (r := .ok (.d (.int (A / 32))) (μ.set n (plD A b (c + 1)))) (by simp [intG, okD])) (eV_ok v1) (by simp [modD, okD]; omega)), Int.emod_nonneg _ (by omega), Int.emod_lt_of_pos _ (by omega), hn, _, _, _, rfl, A0, A1, hb⟩
  obtain ⟨r, μ', h1, h2, h3, h4⟩ := hfin
  refine ⟨r, μ', ?_, h2, h3, h4⟩
  unfold g__law_draw
  rw [fn_rt h1, cutM_of h4.len]
theorem pow_ok (a b : Int) (c : Int) (h : 0 ≤ b ∧ b ≤ 1000000 ∧ a.natAbs < 2 ^ 64) (e : a ^ b.toNat = c) (ρ : Rho) (μ : List Cel) : e2 powD (eK (.int a)) (eK (.int b)) ρ μ = .ok (.d (.int c)) μ := e2_ok eK_ok eK_ok (by simp only [powD, if_pos h, e, okD])
theorem pool_eq (i : Int) (μ : List Cel) : ∃ a b, g__law_pool [.d (.int i)] μ = .ok (.c μ.length) (μ ++ [plD a b 0]) ∧ 0 ≤ a ∧ a < 2147483399 ∧ 0 ≤ b := by
  unfold g__law_pool b__law_pool
  have r0 : (rho0 2 [.d (.int i)])[0]? = some (some (.d (.int i))) := by simp [rho0]
  have p18 := fun ρ => pow_ok 10 18 1000000000000000000 (by decide) (by decide) ρ μ
  have ht : tOrX (tBool (e2 ltD (eV 0) (eK (.int 0)))) (tBool (e2 geD (eV 0) (e2 powD (eK (.int 10)) (eK (.int 18))))) (rho0 2 [.d (.int i)]) μ = .ok (decide (i < 0) || decide (1000000000000000000 ≤ i)) μ :=
    tOr_b (tB_ok (e2_ok (eV_ok r0) eK_ok (by simp [ltD, okD]))) fun _ => tB_ok (e2_ok (eV_ok r0) (p18 _) (by simp [geD, okD]))
  have hB : ∃ B, 0 ≤ B ∧ eIf (tOrX (tBool (e2 ltD (eV 0) (eK (.int 0)))) (tBool (e2 geD (eV 0) (e2 powD (eK (.int 10)) (eK (.int 18)))))) (eN absG (as1 (eV 0) as0)) (eK (.int 0)) (rho0 2 [.d (.int i)]) μ = .ok (.d (.int B)) μ := by
    by_cases h : (decide (i < 0) || decide (1000000000000000000 ≤ i)) = true
    · exact ⟨if i < 0 then -i else i, by split <;> omega, eIf1 (by rw [ht, h]) (eN1_ok (eV_ok r0) (by simp [absG, okD]))⟩
    · exact ⟨0, by decide, eIf0 (by rw [ht, Bool.eq_false_iff.mpr h]) eK_ok⟩
  obtain ⟨B, hB0, hB1⟩ := hB
  have l3 : (3 : Nat) ≤ LIM := by decide
  refine ⟨i % 2147483399, B, ?_, Int.emod_nonneg _ (by decide), Int.emod_lt_of_pos _ (by decide), hB0⟩
  unfold fnG
  rw [st_set hB1, st_ret (v := .c μ.length) (μ' := μ ++ [plD (i % 2147483399) B 0]) (eN3_ok (e2_ok (eN1_ok (eV_ok (x := .d (.int i)) (by simp [rho0])) (r := .ok (.d (.int i)) μ) (by simp [intG, okD])) eK_ok (r := .ok (.d (.int (i % 2147483399))) μ) (by simp [modD, okD])) (eV_ok (x := .d (.int B)) (by simp [rho0])) eK_ok (by simp [eLstC, dats, l3, plD]))]
  rfl
theorem cell_loop : ∀ (ns : List Int) (st : Int) (ρ : Rho) (μ : List Cel), ρ.length = 4 → ρ[2]? = some (some (.d (.int st))) →
    ∃ ρ' st', forL (gN 3) (sSeq (sAsg (e2 modD (eN intG (as1 (e2 addD (e2 mulD (eV 2) (eK (.int 40111))) (eV 3)) as0)) (eK (.int 2147483399))) (gN 2)) sSkip) (intsDat ns) ρ μ = .nx ρ' μ ∧ ρ'[2]? = some (some (.d (.int st')))
  | [], st, ρ, μ, _, h => ⟨ρ, st, rfl, h⟩
  | n :: ns, st, ρ, μ, hl, h => by
    have h2 : (ρ.set 3 (some (.d (.int n))))[2]? = some (some (.d (.int st))) := by simp [h]
    have h3 : (ρ.set 3 (some (.d (.int n))))[3]? = some (some (.d (.int n))) := by simp [hl]
    have hm : mulD (.d (.int st)) (.d (.int 40111)) μ = .ok (.d (.int (st * 40111))) μ := by
      simp only [mulD]
      rw [if_pos (.inr ⟨by decide, by decide⟩)]
      rfl
    obtain ⟨ρ', st', a, b⟩ := cell_loop ns ((st * 40111 + n) % 2147483399) ((ρ.set 3 (some (.d (.int n)))).set 2 (some (.d (.int ((st * 40111 + n) % 2147483399))))) μ (by simp [hl]) (by simp [hl])
    refine ⟨ρ', st', ?_, b⟩
    show ((gN 3 (.d (.int n)) ρ μ).bind _).bind _ = _
    simp only [gN, sbind_nx]
    rw [st_set (v := .d (.int ((st * 40111 + n) % 2147483399))) (μ' := μ) (e2_ok (eN1_ok (e2_ok (e2_ok (eV_ok h2) eK_ok hm) (eV_ok h3) (r := .ok (.d (.int (st * 40111 + n))) μ) (by simp [addD, okD])) (r := .ok (.d (.int (st * 40111 + n))) μ) (by simp [intG, okD])) eK_ok (by simp [modD, okD])), st_skip, sbind_nx]
    exact a
theorem cell_eq (ns : List Int) (k : Nat) (hk : k ≤ 1000) (μ : List Cel) : ∃ i, g__law_cell [.d (.fl (ns.map .int)), .d (.int (k : Nat))] μ = .ok (.d (.int i)) μ := by
  unfold g__law_cell b__law_cell
  have r0 : (rho0 4 [.d (.fl (ns.map .int)), .d (.int (k : Nat))])[0]? = some (some (.d (.fl (ns.map .int)))) := by simp [rho0]
  have r1 : (rho0 4 [.d (.fl (ns.map .int)), .d (.int (k : Nat))])[1]? = some (some (.d (.int (k : Nat)))) := by simp [rho0]
  have ln : eN lenG (as1 (eV 0) as0) (rho0 4 [.d (.fl (ns.map .int)), .d (.int (k : Nat))]) μ = .ok (.d (.int (ns.length : Nat))) μ := eN1_ok (eV_ok r0) (by simp [lenG, lenN, okD])
  by_cases h : k < ns.length
  · refine ⟨ns[k], fn_rt0 ?_⟩
    rw [st_if1 (μ' := μ) (tB_ok (e2_ok (eV_ok r1) ln (by simp [ltD, okD, h])))]
    rw [st_ret (v := .d (.int ns[k])) (μ' := μ) (eN1_ok (e2_ok (eV_ok r0) (eV_ok r1) (r := .ok (.d (.int ns[k])) μ) (by
      simp only [ixD]
      rw [atI_nat _ k (by simpa using h)]
      simp [ofO, okD])) (by simp [intG, okD]))]
    rfl
  · have mk : ∀ (x y : Int), (-(2 ^ 64) < x ∧ x < 2 ^ 64) → mulD (.d (.int x)) (.d (.int y)) μ = .ok (.d (.int (x * y))) μ := fun x y hx => by
      simp only [mulD]
      rw [if_pos (.inl hx)]
      rfl
    generalize hS : (50021 * ((k : Int) * k + 9 * k + 7)) % 2147483399 = S
    obtain ⟨ρ', st', a, b⟩ := cell_loop (ns.take 3) S ((rho0 4 [.d (.fl (ns.map .int)), .d (.int (k : Nat))]).set 2 (some (.d (.int S)))) μ (by simp [rho0]) (by simp [rho0])
    refine ⟨st', fn_rt0 ?_⟩
    rw [st_iff (μ' := μ) (tB_ok (e2_ok (eV_ok r1) ln (by simp [ltD, okD, h])))]
    rw [st_set (v := .d (.int S)) (μ' := μ) (e2_ok (eN1_ok (e2_ok eK_ok (e2_ok (e2_ok (e2_ok (eV_ok r1) (eV_ok r1) (mk _ _ ⟨by omega, by omega⟩)) (e2_ok eK_ok (eV_ok r1) (mk _ _ ⟨by decide, by decide⟩)) (r := .ok (.d (.int ((k : Int) * k + 9 * k))) μ) (by simp [addD, okD])) eK_ok (r := .ok (.d (.int ((k : Int) * k + 9 * k + 7))) μ) (by simp [addD, okD])) (mk _ _ ⟨by decide, by decide⟩)) (r := .ok (.d (.int (50021 * ((k : Int) * k + 9 * k + 7)))) μ) (by simp [intG, okD])) eK_ok (by simp [modD, okD, hS]))]
    rw [st_nx (ρ' := ρ') (μ' := μ) (by
      unfold sFor
      rw [show iSeq (eSl (eV 0) oN (oS (eK (.int 3)))) _ μ = .ok (intsDat (ns.take 3)) μ by
        unfold iSeq eSl oN oS
        rw [eV_ok (x := .d (.fl (ns.map .int))) (by simp [rho0]), bind_ok, bind_ok, eK_ok]
        simp only [bind_ok, toI, slD, okD, seqIt, ofS, intsDat]
        simp [cutL, HT.sIx, List.map_take], osbind_ok]
      exact a)]
    exact st_ret (eV_ok b)
end DL.K05
set_option linter.all false
set_option maxRecDepth 100000
set_option maxHeartbeats 4000000
namespace DL.K05
open PySem PySem.Spec PyProof.Rows L2 DL
theorem par2_ok {a b : EX} {ρ : Rho} {μ μ1 μ2 : List Cel} {x y : DV} {i j : Nat} {s : SX} (h1 : a ρ μ = .ok x μ1) (h2 : b ρ μ1 = .ok y μ2) : sSeq (sPar2 i j (as1 a (as1 b as0))) s ρ μ = s ((ρ.set i (some x)).set j (some y)) μ2 := by
  unfold sSeq sPar2 as1 as0
  rw [h1]
  simp [h2]
theorem dr (n : Nat) (m : Int) (hm : 1 ≤ m) (hm2 : m < 1073741824) (ρ : Rho) (h : ρ[0]? = some (some (.c n))) (μ : List Cel) (hp : Pool μ n) : ∃ r μ', eCall 2 g__law_draw (as1 (eV 0) (as1 (eK (.int m)) as0)) ρ μ = .ok (.d (.int r)) μ' ∧ 0 ≤ r ∧ r < m ∧ PS n μ μ' := by
  obtain ⟨r, μ', h1, q⟩ := draw_eq n m hm hm2 μ hp
  exact ⟨r, μ', eC2_ok (eV_ok h) eK_ok h1, q⟩
theorem low_eq (n : Nat) (μ : List Cel) (hp : Pool μ n) : ∃ v μ', g__law_low [.c n] μ = .ok (.d (.int v)) μ' ∧ 1 ≤ v ∧ v ≤ 999999999 ∧ PS n μ μ' := by
  obtain ⟨r1, μ1, e1', a1, b1, p1⟩ := dr n 12 (by decide) (by decide) (rho0 3 [.c n]) (by simp [rho0]) μ hp
  obtain ⟨r2, μ2, e2', a2, b2, p2⟩ := dr n 3 (by decide) (by decide) (rho0 3 [.c n]) (by simp [rho0]) μ1 p1.pool
  obtain ⟨r3, μ3, e3', a3, b3, p3⟩ := dr n 7 (by decide) (by decide) (((rho0 3 [.c n]).set 1 (some (.d (.int (1 + r1))))).set 2 (some (.d (.int (999999999 - r2))))) (by simp [rho0]) μ2 p2.pool
  have l7 : (7 : Nat) ≤ LIM := by decide
  have key : ∃ v, b__law_low (rho0 3 [.c n]) μ = .rt (.d (.int v)) μ3 ∧ 1 ≤ v ∧ v ≤ 999999999 := by
    unfold b__law_low
    rw [par2_ok (x := .d (.int (1 + r1))) (y := .d (.int (999999999 - r2))) (μ1 := μ1) (μ2 := μ2) (e2_ok eK_ok e1' (by simp [addD, okD])) (e2_ok (e2_ok (pow_ok 10 9 1000000000 (by decide) (by decide) _ _) eK_ok (by simp [subD, okD]; rfl)) e2' (by simp [subD, okD]))]
    have hl : eN eLstD (as1 (eK (.int 1)) (as1 (eK (.int 1)) (as1 (eK (.int 2)) (as1 (eK (.int 3)) (as1 (eV 1) (as1 (eV 1) (as1 (eV 2) as0))))))) (((rho0 3 [.c n]).set 1 (some (.d (.int (1 + r1))))).set 2 (some (.d (.int (999999999 - r2))))) μ2 = .ok (.d (.lst (intsDat [1, 1, 2, 3, 1 + r1, 1 + r1, 999999999 - r2]))) μ2 := by
      simp [eN, as1, as0, eK, eV, rho0, eLstD, dats, l7, okD, intsDat]
    obtain ⟨k, hk⟩ : ∃ k : Nat, r3 = k := ⟨r3.toNat, by omega⟩
    have hk7 : k < 7 := by omega
    refine ⟨[1, 1, 2, 3, 1 + r1, 1 + r1, 999999999 - r2][k], st_ret (e2_ok hl e3' ?_), ?_⟩
    · subst hk
      simp only [ixD]
      rw [atI_nat _ k (by simpa [intsDat] using hk7)]
      simp only [ofO, okD, intsDat, List.getElem_map]
    · have : ∀ x ∈ [1, 1, 2, 3, 1 + r1, 1 + r1, 999999999 - r2], 1 ≤ x ∧ x ≤ 999999999 := by
        intro x hx
        simp only [List.mem_cons, List.not_mem_nil, or_false] at hx
        omega
      exact this _ (List.getElem_mem _)
  obtain ⟨v, h1, h2, h3⟩ := key
  have ps := p1.trans (p2.trans p3)
  refine ⟨v, μ3, ?_, h2, h3, ps⟩
  unfold g__law_low
  rw [fn_rt h1, cutM_of ps.len]
/-- no border beyond 10 ** 9 - 1 -/
def midE (a : Int) (b : Option Int) : Prop := a ≤ 999999999 ∧ ∀ v, b = some v → v ≤ 999999999
def okBm (x : Bx) : Prop := okBx x ∧ midE x.a x.b ∧ midE x.c x.d
theorem ends_eq (n : Nat) (μ : List Cel) (hp : Pool μ n) : ∃ (a : Int) (b : Option Int) (μ' : List Cel), g__law_ends [.c n] μ = .ok (.d (.tup [.int a, optD b])) μ' ∧ (1 ≤ a ∧ a ≤ 1000000000) ∧ okEnd a b = true ∧ midE a b ∧ PS n μ μ' := by
  obtain ⟨v, μ1, e1', a1, a2, p1⟩ := low_eq n μ hp
  obtain ⟨r2, μ2, e2', b1, b2, p2⟩ := dr n 9 (by decide) (by decide) ((rho0 3 [.c n]).set 1 (some (.d (.int v)))) (by simp [rho0]) μ1 p1.pool
  obtain ⟨r3, μ3, e3', c1, c2, p3⟩ := dr n 6 (by decide) (by decide) ((rho0 3 [.c n]).set 1 (some (.d (.int v)))) (by simp [rho0]) μ2 p2.pool
  have l6 : (6 : Nat) ≤ LIM := by decide
  have l3 : (3 : Nat) ≤ LIM := by decide
  have l2 : (2 : Nat) ≤ LIM := by decide
  obtain ⟨k, hk⟩ : ∃ k : Nat, r3 = k := ⟨r3.toNat, by omega⟩
  have hk6 : k < 6 := by omega
  generalize hw : [0, 0, 1, 2, r2, 100000000][k] = w
  have w0 : 0 ≤ w ∧ w ≤ 100000000 := by
    have : ∀ x ∈ [0, 0, 1, 2, r2, 100000000], 0 ≤ x ∧ x ≤ 100000000 := by
      intro x hx
      simp only [List.mem_cons, List.not_mem_nil, or_false] at hx
      omega
    rw [← hw]
    exact this _ (List.getElem_mem _)
  generalize hH : (if 999999999 < v + w then 999999999 else v + w) = H
  have H0 : v ≤ H ∧ H ≤ 999999999 := by rw [← hH]; split <;> omega
  obtain ⟨r4, μ4, e4', d1, d2, p4⟩ := dr n 3 (by decide) (by decide) (((rho0 3 [.c n]).set 1 (some (.d (.int v)))).set 2 (some (.d (.int H)))) (by simp [rho0]) μ3 p3.pool
  have hl : eN eLstD (as1 (eK (.int 0)) (as1 (eK (.int 0)) (as1 (eK (.int 1)) (as1 (eK (.int 2)) (as1 (eCall 2 g__law_draw (as1 (eV 0) (as1 (eK (.int 9)) as0))) (as1 (e2 powD (eK (.int 10)) (eK (.int 8))) as0)))))) ((rho0 3 [.c n]).set 1 (some (.d (.int v)))) μ1 = .ok (.d (.lst (intsDat [0, 0, 1, 2, r2, 100000000]))) μ2 := by
    unfold eN as1 as0
    rw [eK_ok, bind_ok, eK_ok, bind_ok, eK_ok, bind_ok, eK_ok, bind_ok]
    have z : eCall 2 g__law_draw (fun ρ μ => (eV 0 ρ μ).bind fun x μ => ((eK (.int 9) ρ μ).bind fun x μ => (Out.ok [] μ).bind fun xs μ => Out.ok (x :: xs) μ).bind fun xs μ => Out.ok (x :: xs) μ) ((rho0 3 [.c n]).set 1 (some (.d (.int v)))) μ1 = .ok (.d (.int r2)) μ2 := e2'
    rw [z, bind_ok, pow_ok 10 8 100000000 (by decide) (by decide)]
    simp [eLstD, dats, l6, okD, intsDat]
  obtain ⟨q, hq⟩ : ∃ q : Nat, r4 = q := ⟨r4.toNat, by omega⟩
  have hq3 : q < 3 := by omega
  have hl2 : eN eLstD (as1 (eV 2) (as1 (eV 2) (as1 (eK .non) as0))) (((rho0 3 [.c n]).set 1 (some (.d (.int v)))).set 2 (some (.d (.int H)))) μ3 = .ok (.d (.lst ([some H, some H, none].map optD))) μ3 := by
    simp [eN, as1, as0, eK, eV, rho0, eLstD, dats, l3, okD, optD]
  have key : b__law_ends (rho0 3 [.c n]) μ = .rt (.d (.tup [.int v, optD [some H, some H, none][q]])) μ4 := by
    unfold b__law_ends
    rw [st_set (v := .d (.int v)) (μ' := μ1) (eC1_ok (eV_ok (by simp [rho0])) e1')]
    rw [st_set (v := .d (.int H)) (μ' := μ3) (eN2_ok (e2_ok (eV_ok (x := .d (.int v)) (by simp [rho0])) (e2_ok hl e3' (r := .ok (.d (.int w)) μ3) (by
      subst hk
      simp only [ixD]
      rw [atI_nat _ k (by simpa [intsDat] using hk6)]
      simp only [ofO, okD, intsDat, List.getElem_map, hw])) (r := .ok (.d (.int (v + w))) μ3) (by simp [addD, okD])) (e2_ok (pow_ok 10 9 1000000000 (by decide) (by decide) _ _) eK_ok (r := .ok (.d (.int 999999999)) μ3) (by simp [subD, okD])) (by simp only [minG, okD, hH]))]
    refine st_ret (eN2_ok (eV_ok (x := .d (.int v)) (by simp [rho0])) (e2_ok hl2 e4' (r := .ok (.d (optD [some H, some H, none][q])) μ4) (by
      subst hq
      simp only [ixD]
      rw [atI_nat _ q (by simpa using hq3)]
      simp only [ofO, okD, List.getElem_map])) ?_)
    simp [eTupD, dats, l2, okD]
  have ps := p1.trans (p2.trans (p3.trans p4))
  refine ⟨v, [some H, some H, none][q], μ4, ?_, ⟨a1, by omega⟩, ?_, ?_, ps⟩
  · unfold g__law_ends
    rw [fn_rt key, cutM_of ps.len]
  · have : ∀ x ∈ [some H, some H, none], okEnd v x = true := by
      intro x hx
      simp only [List.mem_cons, List.not_mem_nil, or_false] at hx
      rcases hx with rfl | rfl | rfl <;> simp [okEnd, H0] <;> omega
    exact this _ (List.getElem_mem _)
  · have : ∀ x ∈ [some H, some H, none], midE v x := by
      intro x hx
      simp only [List.mem_cons, List.not_mem_nil, or_false] at hx
      refine ⟨a2, fun u hu => ?_⟩
      subst hu
      rcases hx with hx | hx | hx
      · cases hx; exact H0.2
      · cases hx; exact H0.2
      · cases hx
    exact this _ (List.getElem_mem _)
theorem box_eq (n : Nat) (μ : List Cel) (hp : Pool μ n) : ∃ (x : Bx) (μ' : List Cel), g__law_box [.c n] μ = .ok (.d (bxD x)) μ' ∧ okBm x ∧ PS n μ μ' := by
  obtain ⟨a, b, μ1, h1, h2, h3, h4, p1⟩ := ends_eq n μ hp
  obtain ⟨c, d, μ2, k1, k2, k3, k4, p2⟩ := ends_eq n μ1 p1.pool
  have l4 : ∀ (h : 0 + 1 + 1 + (0 + 1 + 1) ≤ LIM ∧ blT ([Dat.int a, optD b] ++ [Dat.int c, optD d]) = false), True := fun _ => trivial
  have l5 : 0 + 1 + 1 + (0 + 1 + 1) ≤ LIM ∧ blT ([Dat.int a, optD b] ++ [Dat.int c, optD d]) = false := ⟨by decide, rfl⟩
  have ps := p1.trans p2
  refine ⟨⟨a, b, c, d⟩, μ2, ?_, ⟨⟨h2, h3, k2, k3⟩, h4, k4⟩, ps⟩
  unfold g__law_box
  have key : b__law_box (rho0 1 [.c n]) μ = .rt (.d (bxD ⟨a, b, c, d⟩)) μ2 := by
    unfold b__law_box
    exact st_ret (e2_ok (eC1_ok (eV_ok (by simp [rho0])) h1) (eC1_ok (eV_ok (by simp [rho0])) k1) (by simp only [addD, List.length_cons, List.length_nil]; rw [if_pos l5]; rfl))
  rw [fn_rt key, cutM_of ps.len]
theorem PS.app {n : Nat} {M : List Cel} {c : Cel} {μ' : List Cel} (hn : n < M.length) (h : PS n (M ++ [c]) μ') : ∃ M', μ' = M' ++ [c] ∧ PS n M M' := by
  obtain ⟨_, a, b, d, e, q⟩ := h
  exact ⟨M.set n (plD a b d), by rw [e, List.set_append_left _ _ hn], hn, a, b, d, rfl, q⟩
theorem Pool.app {n : Nat} {M : List Cel} (h : Pool M n) (c : Cel) : Pool (M ++ [c]) n := by
  obtain ⟨a, b, d, e, q⟩ := h
  exact ⟨a, b, d, by rw [List.getElem?_append_left (List.getElem?_eq_some_iff.mp e).1]; exact e, q⟩
/-- a comprehension that draws from the pool at n -/
theorem eLc_pool {own : List Nat} {it : IX} {g : GX} {e : EX} {ρ : Rho} {μ μ1 : List Cel} {ds : List Dat} {n : Nat} {P : Dat → Prop} (hit : it ρ μ = .ok ds μ1) (hl : ds.length ≤ LIM) (hp : Pool μ1 n) (hc : Clo μ1)
    (h : ∀ d ∈ ds, ∀ μ', Pool μ' n → Clo μ' → ∃ ρ1 μx v μ'', g (.d d) (wipeR ρ own) μ' = .nx ρ1 μx ∧ e ρ1 μ' = .ok (.d v) μ'' ∧ P v ∧ PS n μ' μ'') :
    ∃ vs μ2, eLc own it g tTrue e ρ μ = .ok (.d (.lst vs)) μ2 ∧ vs.length = ds.length ∧ (∀ v ∈ vs, P v) ∧ PS n μ1 μ2 := by
  have key : ∀ (l : List Dat) (M : List Cel) (acc : List Dat), (∀ d ∈ l, d ∈ ds) → acc.length + l.length ≤ LIM → Pool M n → Clo M → M.length = μ1.length → ∃ vs M2, compL μ1.length (wipeR ρ own) g tTrue e l (M ++ [.lst acc]) = .ok () (M2 ++ [.lst (acc ++ vs)]) ∧ vs.length = l.length ∧ (∀ v ∈ vs, P v) ∧ PS n M M2 := by
    intro l
    induction l with
    | nil => intro M acc _ _ hp _ _; exact ⟨[], M, by simp [compL], rfl, by simp, hp.refl⟩
    | cons d l ih =>
      intro M acc hm hz hp hc hM
      have hn : n < M.length := by obtain ⟨a, b, c, e, _⟩ := hp; exact (List.getElem?_eq_some_iff.mp e).1
      obtain ⟨ρ1, μx, v, μ'', h1, h2, h3, h4⟩ := h d (hm d (by simp)) (M ++ [.lst acc]) (hp.app _) (hc.app acc)
      obtain ⟨M', e', p'⟩ := h4.app hn
      subst e'
      have hM' : M'.length = μ1.length := by rw [p'.len, hM]
      have hz' : acc.length < LIM := by simp only [List.length_cons] at hz; exact Nat.lt_of_lt_of_le (Nat.lt_add_of_pos_right (Nat.succ_pos _)) hz
      obtain ⟨vs, M2, k1, k2, k3, k4⟩ := ih M' (acc ++ [v]) (fun d' hd => hm d' (by simp [hd])) (by simp at hz ⊢; omega) p'.pool (p'.clo hc) hM'
      refine ⟨v :: vs, M2, ?_, by simp [k2], fun x hx => ?_, p'.trans k4⟩
      · unfold compL
        rw [h1]
        simp only [tTrue, h2]
        have g1 : (M' ++ [Cel.lst acc])[μ1.length]? = some (.lst acc) := by rw [← hM']; simp
        have g2 : (M' ++ [Cel.lst acc]).set μ1.length (.lst (acc ++ [v])) = M' ++ [.lst (acc ++ [v])] := by rw [← hM']; simp
        rw [g1]
        simp only [if_pos hz', g2, k1]
        simp
      · rcases List.mem_cons.mp hx with rfl | hx
        · exact h3
        · exact k3 x hx
  obtain ⟨vs, M2, k1, k2, k3, k4⟩ := key ds μ1 [] (fun _ h => h) (by simpa using hl) hp hc rfl
  refine ⟨vs, M2, ?_, k2, k3, k4⟩
  unfold eLc
  rw [hit, bind_ok, k1]
  have g1 : (M2 ++ [Cel.lst ([] ++ vs)])[μ1.length]? = some (.lst ([] ++ vs)) := by rw [← k4.len]; simp
  have g2 : (M2 ++ [Cel.lst ([] ++ vs)]).set μ1.length .dead = M2 ++ [.dead] := by rw [← k4.len]; simp
  unfold compE
  simp only [g1, g2]
  rw [← k4.len, cutM_app (k4.clo hc)]
  simp
theorem bx_of : ∀ vs : List Dat, (∀ v ∈ vs, ∃ x, v = bxD x ∧ okBm x) → ∃ bs : List Bx, vs = bs.map bxD ∧ ∀ x ∈ bs, okBm x
  | [], _ => ⟨[], rfl, fun x h => by simp at h⟩
  | v :: vs, h => by
    obtain ⟨x, e, hx⟩ := h v (by simp)
    obtain ⟨bs, e2, hb⟩ := bx_of vs fun w hw => h w (by simp [hw])
    refine ⟨x :: bs, by rw [e, e2]; rfl, fun y hy => ?_⟩
    rcases List.mem_cons.mp hy with rfl | hy
    · exact hx
    · exact hb y hy
theorem boxes_eq (n : Nat) (m : Nat) (hm : m ≤ 100) (μ : List Cel) (hp : Pool μ n) (hc : Clo μ) : ∃ (bs : List Bx) (μ' : List Cel), g__law_boxes [.c n, .d (.int (m : Nat))] μ = .ok (.d (.lst (bs.map bxD))) μ' ∧ bs.length ≤ m ∧ (∀ x ∈ bs, okBm x) ∧ PS n μ μ' := by
  obtain ⟨r, μ1, h1, a1, a2, p1⟩ := draw_eq n ((m : Int) + 1) (by omega) (by omega) μ hp
  have r0 : (rho0 3 [.c n, .d (.int (m : Nat))])[0]? = some (some (.c n)) := by simp [rho0]
  have hit : iRange1 (eCall 2 g__law_draw (as1 (eV 0) (as1 (e2 addD (eV 1) (eK (.int 1))) as0))) (rho0 3 [.c n, .d (.int (m : Nat))]) μ = .ok (rngD 0 r.toNat) μ1 := by
    unfold iRange1
    rw [eC2_ok (eV_ok r0) (e2_ok (eV_ok (x := .d (.int (m : Nat))) (by simp [rho0])) eK_ok (r := .ok (.d (.int ((m : Int) + 1))) μ) (by simp [addD, okD])) h1, bind_ok]
    have hb : rngB r := ⟨by omega, by omega⟩
    simp only [rng1, if_pos hb, ofS]
  have hlen : (rngD 0 r.toNat).length = r.toNat := by simp [rngD]
  obtain ⟨vs, μ2, k1, k2, k3, k4⟩ := eLc_pool (own := [2]) (g := gN 2) (e := eCall 1 g__law_box (as1 (eV 0) as0)) (P := fun v => ∃ x, v = bxD x ∧ okBm x) hit (by rw [hlen]; exact lim1000 (by omega)) p1.pool (p1.clo hc) fun d _ μ' hp' _ => by
    obtain ⟨x, μ'', q1, q2, q3⟩ := box_eq n μ' hp'
    exact ⟨_, _, bxD x, μ'', rfl, eC1_ok (eV_ok (x := .c n) (by simp [wipeR, rho0])) q1, ⟨x, rfl, q2⟩, q3⟩
  obtain ⟨bs, e, hb⟩ := bx_of vs k3
  have ps := p1.trans k4
  refine ⟨bs, μ2, ?_, ?_, hb, ps⟩
  · unfold g__law_boxes
    have key : b__law_boxes (rho0 3 [.c n, .d (.int (m : Nat))]) μ = .rt (.d (.lst (bs.map bxD))) μ2 := by
      unfold b__law_boxes
      rw [← e]
      exact st_ret k1
    rw [fn_rt key, cutM_of ps.len]
  · have : vs.length = bs.length := by rw [e]; simp
    rw [hlen] at k2
    omega
end DL.K05
set_option linter.all false
set_option maxRecDepth 100000
set_option maxHeartbeats 1000000
namespace DL.K05
open PySem PySem.Spec PyProof.Rows L2 DL
def nextD (l : List Int) : List Dat := intsDat (l.drop 1) ++ [.non]
theorem next_at (l : List Int) (j : Nat) (h : j < l.length) : atI (nextD l) (j : Int) = some (optD (l[j + 1]?)) := by
  have hz : j < (nextD l).length := by simp [nextD, intsDat]; omega
  rw [atI_nat _ j hz, ← List.getElem?_eq_getElem hz]
  unfold nextD intsDat
  by_cases h2 : j + 1 < l.length
  · rw [List.getElem?_append_left (by simp; omega)]
    simp [List.getElem?_eq_getElem h2, optD, Nat.add_comm 1 j]
  · have e : j = l.length - 1 := by omega
    rw [List.getElem?_append_right (by simp; omega)]
    rw [List.getElem?_eq_none (Nat.le_of_not_lt h2)]
    simp [optD, e]
theorem next_eq (l : List Int) (hl : l.length ≤ 1000) (c : Nat) (ρ : Rho) (h0 : ρ[c]? = some (some (.d (.tup (intsDat l))))) (μ : List Cel) :
    e2 addD (eN listG (as1 (eSl (eV c) (oS (eK (.int 1))) oN) as0)) (eN eLstD (as1 (eK .non) as0)) ρ μ = .ok (.d (.lst (nextD l))) μ := by
  have hs : eSl (eV c) (oS (eK (.int 1))) oN ρ μ = .ok (.d (.tup (intsDat (l.drop 1)))) μ := by
    unfold eSl oS oN
    rw [eV_ok h0, bind_ok, eK_ok]
    simp only [bind_ok, slD, toI, cut_tail]
    rw [show (intsDat l).drop 1 = intsDat (l.drop 1) by simp [intsDat]]
    rw [if_pos (blT_ints _)]
    rfl
  refine e2_ok (eN1_ok hs (r := .ok (.d (.lst (intsDat (l.drop 1)))) μ) ?_) (y := .d (.lst [.non])) (μ2 := μ) ?_ ?_
  · simp [listG, okD]
  · have l1 : (1 : Nat) ≤ LIM := by decide
    simp [eN, as1, as0, eK, eLstD, dats, l1, okD]
  · exact addL (by simp only [intsDat, List.length_map, List.length_drop, List.length_cons, List.length_nil]; exact lim1000' (by omega))
theorem isNon_opt (o : Option Int) : isNonD (optD o) = o.isNone := by cases o <;> rfl
/-- None, or one less -/
theorem less_eq {t : EX} {o : Option Int} {ρ : Rho} {μ : List Cel} (h : t ρ μ = .ok (.d (optD o)) μ) : eIf (tBool (e2 isN t (eK .non))) (eK .non) (e2 subD t (eK (.int 1))) ρ μ = .ok (.d (optD (o.map (· - 1)))) μ := by
  have hc : tBool (e2 isN t (eK .non)) ρ μ = .ok o.isNone μ := tB_ok (e2_ok h eK_ok (by simp [isN, okD, isNon_opt]))
  cases o with
  | none => exact eIf1 hc eK_ok
  | some v => exact eIf0 hc (e2_ok h eK_ok (by simp [optD, subD, okD]))
def begS (ws : List Int) (r : List Bool) (j : Nat) : Dat := if (decide (0 < j) && r.getD (j - 1) false && r.getD j false) = true then .int (begA ws r (j - 1)) else .non
theorem begS_succ (ws : List Int) (r : List Bool) (j : Nat) : begS ws r (j + 1) = if r.getD j false && r.getD (j + 1) false then .int (begA ws r j) else .non := by
  simp [begS]
/-- behind the first test -/
theorem begS_then {ws : List Int} {r : List Bool} {j : Nat} (h : r.getD j false = true) : (if isNonD (begS ws r j) = true then Dat.int (ws.getD j 0) else begS ws r j) = .int (begA ws r j) := by
  unfold begS
  cases j with
  | zero => simp [isNonD, begA]
  | succ j =>
    cases hp : r.getD j false with
    | true =>
      have h' : r.getD (j + 1) false = true := h
      simp only [Nat.add_sub_cancel, hp, h', begA]
      simp [isNonD]
    | false =>
      simp only [Nat.add_sub_cancel, hp, begA]
      simp [isNonD]
theorem begS_non {ws : List Int} {r : List Bool} {j : Nat} (h : r.getD j false = false) : begS ws r j = .non := by
  unfold begS
  rw [h]
  simp
theorem ends_last {ws : List Int} {r : List Bool} (hr : r.length = ws.length) {j : Nat} : ((ws[j + 1]?).isNone || !r.getD (j + 1) false) = !r.getD (j + 1) false := by
  by_cases h : j + 1 < ws.length
  · rw [List.getElem?_eq_getElem h]; simp
  · have : r.getD (j + 1) false = false := by rw [List.getD_eq_getElem?_getD, List.getElem?_eq_none (by omega)]; rfl
    rw [this]
    simp
abbrev duIn : SX := (sSeq (sIf (tAndX (tTru (e2 ixD (e2 ixD (eV 2) (eV 4)) (eV 9))) (tBool (e2 isN (eV 8) (eK .non)))) (sSeq (sAsg (e2 ixD (eV 1) (eV 9)) (gN 8))
    sSkip) sSkip)
    (sSeq (sIf (tAndX (tBool (e2 notN (eV 8) (eK .non))) (tOrX (tBool (e2 isN (e2 ixD (eV 6) (eV 9)) (eK .non))) (tNotX (tTru (e2 ixD (e2 ixD (eV 2) (eV 4)) (e2 addD (eV 9) (eK (.int 1)))))))) (sSeq (sDo (eLm1 appendD (eV 3) (eN eTupD (as1 (e2 ixD (eV 0) (eV 4)) (as1 (eV 7) (as1 (eV 8) (as1 (eIf (tBool (e2 isN (e2 ixD (eV 6) (eV 9)) (eK .non))) (eK .non) (e2 subD (e2 ixD (eV 6) (eV 9)) (eK (.int 1)))) as0)))))))
    (sSeq (sAsg (eK .non) (gN 8))
    sSkip)) sSkip)
    sSkip))
abbrev rhD (g : Gr) (n0 k : Nat) (bg : Dat) (x9 : Option DV) : Rho := [some (.d (.tup (intsDat g.hs))), some (.d (.tup (intsDat g.ws))), some (.d (.tup (g.t.map rowD))), some (.c n0), some (.d (.int (k : Nat))), some (.d (.lst (nextD g.hs))), some (.d (.lst (nextD g.ws))), some (.d (optD (endA g.hs k))), some (.d bg), x9]
theorem append_ok {n : Nat} {μ : List Cel} {acc : List Dat} {d : Dat} (hn : n = μ.length) (h : acc.length < LIM) : appendD (.c n) (.d d) (μ ++ [.lst acc]) = .ok (.d .non) (μ ++ [.lst (acc ++ [d])]) := by
  subst hn
  have g1 : (μ ++ [Cel.lst acc])[μ.length]? = some (.lst acc) := by simp
  simp only [appendD, g1, if_pos h]
  simp
theorem row_due {g : Gr} (G : Gk g) (k : Nat) (r : List Bool) (hk : k < g.t.length) (hr : g.t[k] = r) (μ : List Cel) (z0 : List Dat) (hz0 : z0.length ≤ 1000000) (x9 : Option DV) {N : Rho → List Cel → Prop} {R : DV → List Cel → Prop} {X : Exn → Rho → List Cel → Prop}
    (hN : ∀ bg x9', N (rhD g μ.length k bg x9') (μ ++ [.lst (z0 ++ (rowBx g.hs g.ws k r r.length).map bxD)])) :
    WS (forL (gN 9) duIn (rngD 0 g.ws.length) (rhD g μ.length k .non x9) (μ ++ [.lst z0])) N R X := by
  have hrl : r.length = g.ws.length := G.rl r (by rw [← hr]; exact List.getElem_mem _)
  have hkh : k < g.hs.length := by rw [G.hl]; exact hk
  rw [rng_nats]
  refine ws_forI (fun j : Nat => .int (j : Int)) (fun pre ρ μ' => μ' = μ ++ [.lst (z0 ++ (rowBx g.hs g.ws k r pre.length).map bxD)] ∧ ∃ x9', ρ = rhD g μ.length k (begS g.ws r pre.length) x9') (List.range g.ws.length) ?_ ?_ ?_
  · exact ⟨by simp [rowBx], x9, by simp [begS]⟩
  · rintro pre j post ρ _ e ⟨rfl, x9', rfl⟩
    have hj : pre.length = j ∧ j < g.ws.length := by
      have q : (List.range g.ws.length)[pre.length]? = some j := by rw [e]; simp
      obtain ⟨q1, q2⟩ := List.getElem?_eq_some_iff.mp q
      simp at q1 q2
      omega
    obtain ⟨hj1, hj2⟩ := hj
    rw [hj1]
    show WS (duIn ((rhD g μ.length k (begS g.ws r j) x9').set 9 (some (.d (.int (j : Int))))) _) _ _ _
    generalize hM : μ ++ [Cel.lst (z0 ++ (rowBx g.hs g.ws k r j).map bxD)] = M
    rw [show (rhD g μ.length k (begS g.ws r j) x9').set 9 (some (.d (.int (j : Int)))) = rhD g μ.length k (begS g.ws r j) (some (.d (.int (j : Int)))) from rfl]
    have trow : ∀ (bg : Dat), e2 ixD (eV 2) (eV 4) (rhD g μ.length k bg (some (.d (.int (j : Int))))) M = .ok (.d (rowD r)) M := fun bg => e2_ok (eV_ok (x := .d (.tup (g.t.map rowD))) rfl) (eV_ok (x := .d (.int (k : Nat))) rfl) (by
      simp only [ixD]
      rw [atI_map rowD g.t k hk, hr]
      rfl)
    have tat : ∀ (bg : Dat), tTru (e2 ixD (e2 ixD (eV 2) (eV 4)) (eV 9)) (rhD g μ.length k bg (some (.d (.int (j : Int))))) M = .ok (r.getD j false) M := fun bg => tT_ok (e2_ok (trow bg) (eV_ok (x := .d (.int (j : Int))) rfl) (row_at r j (by omega) M))
    have hex : ∀ (bg : Dat), e2 ixD (eV 6) (eV 9) (rhD g μ.length k bg (some (.d (.int (j : Int))))) M = .ok (.d (optD (g.ws[j + 1]?))) M := fun bg => e2_ok (eV_ok (x := .d (.lst (nextD g.ws))) rfl) (eV_ok (x := .d (.int (j : Int))) rfl) (by
      simp only [ixD]
      rw [next_at _ _ hj2]
      rfl)
    -- the beginning
    have s1 : ∀ {N' : Rho → List Cel → Prop}, N' (rhD g μ.length k (if r.getD j false = true then .int (begA g.ws r j) else .non) (some (.d (.int (j : Int))))) M → WS (sIf (tAndX (tTru (e2 ixD (e2 ixD (eV 2) (eV 4)) (eV 9))) (tBool (e2 isN (eV 8) (eK .non)))) (sSeq (sAsg (e2 ixD (eV 1) (eV 9)) (gN 8))
        sSkip) sSkip (rhD g μ.length k (begS g.ws r j) (some (.d (.int (j : Int))))) M) N' R X := fun {N'} hN' => by
      have ht : tAndX (tTru (e2 ixD (e2 ixD (eV 2) (eV 4)) (eV 9))) (tBool (e2 isN (eV 8) (eK .non))) (rhD g μ.length k (begS g.ws r j) (some (.d (.int (j : Int))))) M = .ok (r.getD j false && isNonD (begS g.ws r j)) M :=
        tAnd_b (tat _) fun _ => tB_ok (e2_ok (eV_ok (x := .d (begS g.ws r j)) rfl) eK_ok (by simp [isN, okD]))
      unfold sIf
      rw [ht]
      cases hb : r.getD j false with
      | false =>
        rw [hb] at hN'
        rw [begS_non hb]
        exact hN'
      | true =>
        rw [hb] at hN'
        have q := begS_then (ws := g.ws) hb
        cases hn : isNonD (begS g.ws r j) with
        | true =>
          rw [hn] at q
          show WS (sSeq (sAsg (e2 ixD (eV 1) (eV 9)) (gN 8)) sSkip _ _) _ _ _
          rw [st_set (v := .d (.int (g.ws.getD j 0))) (μ' := M) (e2_ok (eV_ok (x := .d (.tup (intsDat g.ws))) rfl) (eV_ok (x := .d (.int (j : Int))) rfl) (int_at _ j hj2 M))]
          have q2 : Dat.int (g.ws.getD j 0) = .int (begA g.ws r j) := by simpa using q
          rw [q2]
          exact hN'
        | false =>
          rw [hn] at q
          have q2 : begS g.ws r j = .int (begA g.ws r j) := by simpa using q
          rw [q2]
          exact hN'
    rw [ws_seq]
    refine s1 ?_
    rw [ws_seq]
    have hlen := rowBx_len g.hs g.ws k r j
    have ht2 : tAndX (tBool (e2 notN (eV 8) (eK .non))) (tOrX (tBool (e2 isN (e2 ixD (eV 6) (eV 9)) (eK .non))) (tNotX (tTru (e2 ixD (e2 ixD (eV 2) (eV 4)) (e2 addD (eV 9) (eK (.int 1))))))) (rhD g μ.length k (if r.getD j false = true then .int (begA g.ws r j) else .non) (some (.d (.int (j : Int))))) M = .ok (lastB r j) M := by
      have e3 : lastB r j = (r.getD j false && ((g.ws[j + 1]?).isNone || !r.getD (j + 1) false)) := by rw [ends_last hrl]; rfl
      rw [e3]
      refine tAnd_b (tB_ok (e2_ok (eV_ok (x := .d (if r.getD j false = true then .int (begA g.ws r j) else .non)) rfl) eK_ok (r := .ok (.d (.bl (r.getD j false))) M) ?_)) fun _ => ?_
      · cases r.getD j false <;> simp [notN, okD, isNonD]
      · refine tOr_b (tB_ok (e2_ok (hex _) eK_ok (r := .ok (.d (.bl ((g.ws[j + 1]?).isNone))) M) (by simp [isN, okD, isNon_opt]))) fun q => ?_
        have hj3 : j + 1 < g.ws.length := by
          have q' : ¬ (g.ws.length ≤ j + 1) := by simpa using q
          omega
        refine tN_ok (tT_ok (e2_ok (trow _) (e2_ok (eV_ok (x := .d (.int (j : Int))) rfl) eK_ok (r := .ok (.d (.int ((j + 1 : Nat) : Int))) M) (by simp [addD, okD])) (row_at r (j + 1) (by omega) M)))
    have fin : ∀ M', M' = μ ++ [Cel.lst (z0 ++ (rowBx g.hs g.ws k r (j + 1)).map bxD)] → M' = μ ++ [Cel.lst (z0 ++ (rowBx g.hs g.ws k r (pre ++ [j]).length).map bxD)] := fun M' h => by
      rw [h]
      simp [hj1]
    have ep : (pre ++ [j]).length = j + 1 := by simp [hj1]
    have e1 : ∀ c : TX, ∀ (A : SX) ρ', c ρ' M = .ok (lastB r j) M → sIf c A sSkip ρ' M = if lastB r j = true then A ρ' M else sSkip ρ' M := fun c A ρ' h => by
      unfold sIf
      rw [h]
      rfl
    rw [e1 _ _ _ ht2]
    by_cases hq : lastB r j = true
    · rw [if_pos hq]
      have hb1 : r.getD j false = true := by unfold lastB at hq; simp only [Bool.and_eq_true] at hq; exact hq.1
      have hb2 : r.getD (j + 1) false = false := by unfold lastB at hq; simp only [Bool.and_eq_true] at hq; simpa using hq.2
      rw [hb1]
      simp only [if_true]
      generalize hR : rhD g μ.length k (.int (begA g.ws r j)) (some (.d (.int (j : Int)))) = RR
      have ht : eN eTupD (as1 (e2 ixD (eV 0) (eV 4)) (as1 (eV 7) (as1 (eV 8) (as1 (eIf (tBool (e2 isN (e2 ixD (eV 6) (eV 9)) (eK .non))) (eK .non) (e2 subD (e2 ixD (eV 6) (eV 9)) (eK (.int 1)))) as0)))) RR M = .ok (.d (bxD ⟨g.hs.getD k 0, endA g.hs k, begA g.ws r j, endA g.ws j⟩)) M := by
        have h1 : e2 ixD (eV 0) (eV 4) RR M = .ok (.d (.int (g.hs.getD k 0))) M := e2_ok (eV_ok (x := .d (.tup (intsDat g.hs))) (by rw [← hR]; rfl)) (eV_ok (x := .d (.int (k : Nat))) (by rw [← hR]; rfl)) (int_at _ k hkh M)
        have h2 : eV 7 RR M = .ok (.d (optD (endA g.hs k))) M := eV_ok (by rw [← hR]; rfl)
        have h3 : eV 8 RR M = .ok (.d (.int (begA g.ws r j))) M := eV_ok (by rw [← hR]; rfl)
        have h4 := less_eq (t := e2 ixD (eV 6) (eV 9)) (ρ := RR) (μ := M) (o := g.ws[j + 1]?) (by rw [← hR]; exact hex _)
        have l4 : 0 + 1 + 1 + 1 + 1 ≤ LIM := by decide
        unfold eN as1 as0
        rw [h1, bind_ok, h2, bind_ok, h3, bind_ok, h4]
        simp [eTupD, dats, okD, bxD, l4, blT, isBl, endA]
      have ha : eLm1 appendD (eV 3) (eN eTupD (as1 (e2 ixD (eV 0) (eV 4)) (as1 (eV 7) (as1 (eV 8) (as1 (eIf (tBool (e2 isN (e2 ixD (eV 6) (eV 9)) (eK .non))) (eK .non) (e2 subD (e2 ixD (eV 6) (eV 9)) (eK (.int 1)))) as0))))) RR M = .ok (.d .non) (μ ++ [Cel.lst (z0 ++ (rowBx g.hs g.ws k r (j + 1)).map bxD)]) := by
        unfold eLm1
        rw [eV_ok (x := .c μ.length) (by rw [← hR]; rfl), bind_ok]
        rw [if_pos (show isLstV (.c μ.length) M = true by rw [← hM]; simp [isLstV]), ht, bind_ok, ← hM]
        rw [append_ok rfl (by
          rw [List.length_append, List.length_map]
          exact Nat.lt_of_le_of_lt (Nat.add_le_add hz0 (Nat.le_trans hlen (by have := G.w1; omega : j ≤ 1000))) (by decide))]
        rw [rowBx_succ, if_pos hq]
        simp
      rw [st_do ha, st_set eK_ok]
      refine ⟨fin _ rfl, some (.d (.int (j : Int))), ?_⟩
      rw [ep, begS_succ, hb2, ← hR]
      simp
    · rw [if_neg hq]
      refine ⟨fin _ ?_, some (.d (.int (j : Int))), ?_⟩
      · rw [← hM, rowBx_succ, if_neg hq]
        simp
      · rw [ep, begS_succ]
        cases hb1 : r.getD j false with
        | false => simp
        | true =>
          have hb2 : r.getD (j + 1) false = true := by
            unfold lastB at hq
            rw [hb1] at hq
            simpa using hq
          rw [hb2]
          simp
  · rintro ρ _ ⟨rfl, x9', rfl⟩
    rw [List.length_range, ← hrl]
    exact hN _ _
theorem due_eq {g : Gr} (G : Gk g) (μ : List Cel) (hc : Clo μ) : g__law_due_boxes [.d (.tup (intsDat g.hs)), .d (.tup (intsDat g.ws)), .d (.tup (g.t.map rowD))] μ = .ok (.d (.lst ((dueBx g).map bxD))) μ := by
  refine WE.eq ?_
  unfold g__law_due_boxes
  rw [we_fnG]
  have r0 : rho0 10 [.d (.tup (intsDat g.hs)), .d (.tup (intsDat g.ws)), .d (.tup (g.t.map rowD))] = [some (.d (.tup (intsDat g.hs))), some (.d (.tup (intsDat g.ws))), some (.d (.tup (g.t.map rowD))), none, none, none, none, none, none, none] := rfl
  rw [r0]
  unfold b__law_due_boxes
  rw [par2_ok (next_eq g.hs G.h1 0 _ rfl μ) (next_eq g.ws G.w1 1 _ rfl μ)]
  simp only [List.set]
  rw [st_set (v := .c μ.length) (μ' := μ ++ [.lst []]) (by simp [eN, as0, eLstC, dats])]
  simp only [List.set]
  rw [ws_seq, ws_for]
  have hit : iRange1 (eN lenG (as1 (eV 0) as0)) [some (.d (.tup (intsDat g.hs))), some (.d (.tup (intsDat g.ws))), some (.d (.tup (g.t.map rowD))), some (.c μ.length), none, some (.d (.lst (nextD g.hs))), some (.d (.lst (nextD g.ws))), none, none, none] (μ ++ [.lst []]) = .ok (rngD 0 (intsDat g.hs).length) (μ ++ [.lst []]) :=
    range_len 0 _ _ _ rfl (by rw [show (intsDat g.hs).length = g.hs.length by simp [intsDat]]; exact G.h1)
  rw [hit, show (intsDat g.hs).length = g.hs.length by simp [intsDat]]
  show WS (forL _ _ _ _ _) _ _ _
  rw [rng_nats]
  refine ws_forI (fun k : Nat => .int (k : Int)) (fun pre ρ μ' => μ' = μ ++ [.lst ((dueL g.hs g.ws (g.t.take pre.length) 0).map bxD)] ∧ ∃ x4 x7 x8 x9, ρ = [some (.d (.tup (intsDat g.hs))), some (.d (.tup (intsDat g.ws))), some (.d (.tup (g.t.map rowD))), some (.c μ.length), x4, some (.d (.lst (nextD g.hs))), some (.d (.lst (nextD g.ws))), x7, x8, x9]) (List.range g.hs.length) ?_ ?_ ?_
  · exact ⟨by simp [dueL], _, _, _, _, rfl⟩
  · rintro pre k post ρ _ e ⟨rfl, x4, x7, x8, x9, rfl⟩
    have hk : pre.length = k ∧ k < g.hs.length := by
      have q : (List.range g.hs.length)[pre.length]? = some k := by rw [e]; simp
      obtain ⟨q1, q2⟩ := List.getElem?_eq_some_iff.mp q
      simp at q1 q2
      omega
    obtain ⟨hk1, hk2⟩ := hk
    have hkt : k < g.t.length := by rw [← G.hl]; exact hk2
    rw [hk1, ws_gN]
    simp only [List.set]
    have hs : (dueL g.hs g.ws (g.t.take k) 0).length ≤ 1000000 := due_small G _ (by have := G.h1; have := G.hl; simp; omega) fun q hq => List.mem_of_mem_take hq
    generalize hM : μ ++ [Cel.lst ((dueL g.hs g.ws (g.t.take k) 0).map bxD)] = M
    have htop := less_eq (t := e2 ixD (eV 5) (eV 4)) (o := g.hs[k + 1]?) (ρ := [some (.d (.tup (intsDat g.hs))), some (.d (.tup (intsDat g.ws))), some (.d (.tup (g.t.map rowD))), some (.c μ.length), some (.d (.int (k : Int))), some (.d (.lst (nextD g.hs))), some (.d (.lst (nextD g.ws))), x7, x8, x9]) (μ := M)
      (e2_ok (eV_ok (x := .d (.lst (nextD g.hs))) rfl) (eV_ok (x := .d (.int (k : Int))) rfl) (by
        simp only [ixD]
        rw [next_at _ _ hk2]
        rfl))
    rw [st_set htop, st_set eK_ok]
    simp only [List.set]
    rw [ws_seq, ws_for]
    have hit2 : iRange1 (eN lenG (as1 (eV 1) as0)) (rhD g μ.length k .non x9) M = .ok (rngD 0 (intsDat g.ws).length) M :=
      range_len 1 _ _ _ rfl (by rw [show (intsDat g.ws).length = g.ws.length by simp [intsDat]]; exact G.w1)
    show WE (iRange1 (eN lenG (as1 (eV 1) as0)) (rhD g μ.length k .non x9) M) _ _
    rw [hit2, show (intsDat g.ws).length = g.ws.length by simp [intsDat], ← hM]
    show WS (forL (gN 9) duIn _ _ _) _ _ _
    refine row_due G k g.t[k] hkt rfl μ _ (by rw [List.length_map]; exact hs) x9 fun bg x9' => ?_
    rw [ws_skip]
    refine ⟨?_, _, _, _, _, rfl⟩
    have ep : (pre ++ [k]).length = k + 1 := by simp [hk1]
    rw [ep, show g.t.take (k + 1) = g.t.take k ++ [g.t[k]] by rw [List.take_succ_eq_append_getElem hkt], dueL_snoc, List.map_append]
    rw [show 0 + (g.t.take k).length = k by simp; omega]
  · rintro ρ _ ⟨rfl, x4, x7, x8, x9, rfl⟩
    rw [st_ret (eV_ok (x := .c μ.length) rfl)]
    rw [List.length_range, G.hl, List.take_length]
    show WE (finV true μ.length (.c μ.length) (μ ++ [.lst ((dueBx g).map bxD)])) _ _
    have g1 : (μ ++ [Cel.lst ((dueBx g).map bxD)])[μ.length]? = some (.lst ((dueBx g).map bxD)) := by simp
    have g2 : (μ ++ [Cel.lst ((dueBx g).map bxD)]).set μ.length .dead = μ ++ [.dead] := by simp
    simp only [finV, g1, g2, cutM_app hc]
    exact ⟨rfl, rfl⟩
end DL.K05
set_option linter.all false
set_option maxRecDepth 100000
set_option maxHeartbeats 1000000
namespace DL.K05
open PySem PySem.Spec PyProof.Rows L2 DL
def cntB (p : Nat → Bool) (m : Nat) : Nat := ((List.range m).filter p).length
theorem cntB_succ (p : Nat → Bool) (m : Nat) : cntB p (m + 1) = cntB p m + if p m = true then 1 else 0 := by
  unfold cntB
  rw [List.range_succ, List.filter_append, List.length_append]
  congr 1
  by_cases h : p m = true <;> simp [h]
theorem run_count (r : List Bool) : ∀ m, cntB (runB r) m = cntB (lastB r) m + if (decide (0 < m) && r.getD (m - 1) false && r.getD m false) = true then 1 else 0
  | 0 => by simp [cntB]
  | m + 1 => by
    rw [cntB_succ, cntB_succ, run_count r m]
    simp only [runB, lastB, Nat.add_sub_cancel]
    cases m with
    | zero => by_cases a : r[0]?.getD false = true <;> by_cases b : r[1]?.getD false = true <;> simp [a, b]
    | succ m =>
      by_cases a : r[m]?.getD false = true <;> by_cases b : r[m + 1]?.getD false = true <;> by_cases c : r[m + 1 + 1]?.getD false = true <;> simp [a, b, c]
theorem over_false (r : List Bool) {j : Nat} (h : r.length ≤ j) : r.getD j false = false := by rw [List.getD_eq_getElem?_getD, List.getElem?_eq_none h]; rfl
theorem run_row (r : List Bool) : ((List.range r.length).filter (runB r)).length = ((List.range r.length).filter (lastB r)).length := by
  have := run_count r r.length
  rw [over_false r (Nat.le_refl _)] at this
  simpa [cntB] using this
theorem runs_due (hs ws : List Int) : ∀ (t : List (List Bool)) (k : Nat), (runsIn t k).length = (dueL hs ws t k).length
  | [], k => by simp [runsIn, dueL]
  | r :: t, k => by
    simp only [runsIn, dueL, List.length_append, List.length_map, runs_due hs ws t (k + 1), rowBx, run_row r]
def sIdx (r : List Bool) : Nat → Nat
  | 0 => 0
  | j + 1 => if r.getD j false = true then sIdx r j else j + 1
theorem sIdx_le (r : List Bool) : ∀ j, sIdx r j ≤ j
  | 0 => Nat.le_refl _
  | j + 1 => by
    have := sIdx_le r j
    simp only [sIdx]
    split <;> omega
theorem begA_s (ws : List Int) (r : List Bool) : ∀ j, begA ws r j = ws.getD (sIdx r j) 0
  | 0 => rfl
  | j + 1 => by
    simp only [begA, sIdx]
    split
    · exact begA_s ws r j
    · rfl
theorem sIdx_all (r : List Bool) : ∀ j, r.getD j false = true → ∀ i, sIdx r j ≤ i → i ≤ j → r.getD i false = true
  | 0, h, i, h1, h2 => by
    have : i = 0 := by omega
    rw [this]; exact h
  | j + 1, h, i, h1, h2 => by
    by_cases hp : r.getD j false = true
    · simp only [sIdx, if_pos hp] at h1
      by_cases e : i = j + 1
      · rw [e]; exact h
      · exact sIdx_all r j hp i h1 (by omega)
    · simp only [sIdx, if_neg hp] at h1
      have : i = j + 1 := by omega
      rw [this]; exact h
/-- the end of the stretch that has l -/
theorem end_of (r : List Bool) : ∀ (d l : Nat), r.length - l = d → r.getD l false = true → ∃ i, lastB r i = true ∧ sIdx r i ≤ l ∧ l ≤ i ∧ i < r.length
  | 0, l, hd, h => by rw [over_false r (by omega)] at h; cases h
  | d + 1, l, hd, h => by
    by_cases hn : r.getD (l + 1) false = true
    · obtain ⟨i, h1, h2, h3, h4⟩ := end_of r d (l + 1) (by omega) hn
      refine ⟨i, h1, ?_, by omega, h4⟩
      by_cases hs : sIdx r i ≤ l
      · exact hs
      · exfalso
        have e : sIdx r i = l + 1 := by omega
        have key : ∀ j, sIdx r j = l + 1 → l + 1 ≤ j → False := by
          intro j
          induction j with
          | zero => intro q; simp [sIdx] at q
          | succ j ih =>
            intro q hj
            by_cases hp : r.getD j false = true
            · simp only [sIdx, if_pos hp] at q
              by_cases hjl : l + 1 ≤ j
              · exact ih q hjl
              · have : sIdx r j ≤ j := sIdx_le r j
                omega
            · simp only [sIdx, if_neg hp] at q
              have : j = l := by omega
              rw [this] at hp
              exact hp h
        exact key i e h3
    · exact ⟨l, by unfold lastB; rw [h]; simpa using hn, sIdx_le r l, Nat.le_refl _, by by_cases q : l < r.length; exact q; rw [over_false r (by omega)] at h; cases h⟩
def inBx (x : Bx) (h w : Int) : Bool := inS x.r h && inS x.q w
theorem band_iff {st : List Int} (asc : st.Pairwise (· < ·)) (h0 : st[0]? = some 1) {n : Int} (hn : 1 ≤ n) {s i : Nat} (hs : s ≤ i) (hi : i < st.length) :
    inS (st.getD s 0, endA st i) n = true ↔ s ≤ cnt st n - 1 ∧ cnt st n - 1 ≤ i := by
  obtain ⟨c1, c2⟩ := cnt_pos asc h0 hn
  have hsl : s < st.length := by omega
  have a1 := asc_cnt n st asc s hsl
  rw [show st.getD s 0 = st[s] by simp [List.getD, hsl]]
  unfold inS endA
  by_cases hl : i + 1 < st.length
  · have a2 := asc_cnt n st asc (i + 1) hl
    rw [List.getElem?_eq_getElem hl]
    simp only [Option.map_some, Bool.and_eq_true, decide_eq_true_eq]
    omega
  · have a3 := cnt_le st n
    rw [List.getElem?_eq_none (by omega)]
    simp only [Option.map_none, Bool.and_true, decide_eq_true_eq]
    omega
theorem mem_row {hs ws : List Int} {k : Nat} {r : List Bool} {n : Nat} {x : Bx} : x ∈ rowBx hs ws k r n ↔ ∃ i, i < n ∧ lastB r i = true ∧ x = ⟨hs.getD k 0, endA hs k, begA ws r i, endA ws i⟩ := by
  unfold rowBx
  simp only [List.mem_map, List.mem_filter, List.mem_range]
  constructor
  · rintro ⟨i, ⟨h1, h2⟩, rfl⟩; exact ⟨i, h1, h2, rfl⟩
  · rintro ⟨i, h1, h2, rfl⟩; exact ⟨i, ⟨h1, h2⟩, rfl⟩
theorem mem_due {hs ws : List Int} {x : Bx} : ∀ {t : List (List Bool)} {k : Nat}, x ∈ dueL hs ws t k ↔ ∃ j, ∃ h : j < t.length, x ∈ rowBx hs ws (k + j) t[j] t[j].length
  | [], k => by simp [dueL]
  | r :: t, k => by
    simp only [dueL, List.mem_append, mem_due (t := t) (k := k + 1)]
    constructor
    · rintro (h | ⟨j, hj, h⟩)
      · exact ⟨0, by simp, by simpa using h⟩
      · exact ⟨j + 1, by simpa using hj, by rw [show k + (j + 1) = k + 1 + j by omega]; simpa using h⟩
    · rintro ⟨j, hj, h⟩
      cases j with
      | zero => exact .inl (by simpa using h)
      | succ j => exact .inr ⟨j, by simpa using hj, by rw [show k + 1 + j = k + (j + 1) by omega]; simpa using h⟩
/-- a box of the row k has exactly the sizes of its stretch -/
theorem in_row {g : Gr} (G : Grd g) {k i : Nat} (hk : k < g.t.length) (hi : i < g.t[k].length) (hl : lastB g.t[k] i = true) {h w : Int} (hh : 1 ≤ h) (hw : 1 ≤ w) :
    inBx ⟨g.hs.getD k 0, endA g.hs k, begA g.ws g.t[k] i, endA g.ws i⟩ h w = true ↔ cnt g.hs h - 1 = k ∧ sIdx g.t[k] i ≤ cnt g.ws w - 1 ∧ cnt g.ws w - 1 ≤ i := by
  have hwl := G.wl _ (List.getElem_mem hk)
  have a1 := band_iff G.ha G.h1 hh (Nat.le_refl k) (by rw [G.hl]; exact hk)
  have a2 := band_iff G.wa G.w1 hw (sIdx_le g.t[k] i) (by omega)
  unfold inBx
  rw [Bool.and_eq_true, begA_s]
  show inS (g.hs.getD k 0, endA g.hs k) h = true ∧ inS (g.ws.getD (sIdx g.t[k] i) 0, endA g.ws i) w = true ↔ _
  rw [a1, a2]
  omega
theorem due_mem {g : Gr} (G : Grd g) (h w : Int) (hh : 1 ≤ h) (hw : 1 ≤ w) : memG g h w = (dueBx g).any fun x => inBx x h w := by
  rw [Bool.eq_iff_iff, List.any_eq_true]
  obtain ⟨c1, c2⟩ := cnt_pos G.ha G.h1 hh
  obtain ⟨d1, d2⟩ := cnt_pos G.wa G.w1 hw
  have hk : cnt g.hs h - 1 < g.t.length := by rw [← G.hl]; exact c2
  have em : memG g h w = (g.t[cnt g.hs h - 1]).getD (cnt g.ws w - 1) false := by
    unfold memG
    rw [show g.t.getD (cnt g.hs h - 1) [] = g.t[cnt g.hs h - 1] by simp [List.getD, hk]]
  rw [em]
  constructor
  · intro q
    obtain ⟨i, h1, h2, h3, h4⟩ := end_of _ _ _ rfl q
    refine ⟨_, mem_due.mpr ⟨cnt g.hs h - 1, hk, mem_row.mpr ⟨i, h4, h1, rfl⟩⟩, ?_⟩
    rw [Nat.zero_add]
    exact (in_row G hk h4 h1 hh hw).mpr ⟨rfl, h2, h3⟩
  · rintro ⟨x, hx, hin⟩
    obtain ⟨j, hj, hx⟩ := mem_due.mp hx
    obtain ⟨i, hi, hl, rfl⟩ := mem_row.mp hx
    rw [Nat.zero_add] at hin
    obtain ⟨e, h1, h2⟩ := (in_row G hj hi hl hh hw).mp hin
    subst e
    exact sIdx_all _ i (by unfold lastB at hl; simp only [Bool.and_eq_true] at hl; exact hl.1) _ h1 h2
/-- no size is in two of them -/
def Apart (x y : Bx) : Prop := ∀ h w, 1 ≤ h → 1 ≤ w → inBx x h w = true → inBx y h w = true → False
theorem row_apart {g : Gr} (G : Grd g) {k : Nat} (hk : k < g.t.length) : (rowBx g.hs g.ws k g.t[k] g.t[k].length).Pairwise Apart := by
  unfold rowBx
  rw [List.pairwise_map]
  refine List.Pairwise.imp_of_mem ?_ (List.Pairwise.filter _ List.pairwise_lt_range)
  intro i j hi hj hij h w hh hw h1 h2
  simp only [List.mem_filter, List.mem_range] at hi hj
  obtain ⟨_, p1, p2⟩ := (in_row G hk hi.1 hi.2 hh hw).mp h1
  obtain ⟨_, q1, q2⟩ := (in_row G hk hj.1 hj.2 hh hw).mp h2
  have hjt : g.t[k].getD j false = true := by have := hj.2; unfold lastB at this; simp only [Bool.and_eq_true] at this; exact this.1
  have := sIdx_all _ j hjt (i + 1) (by omega) (by omega)
  have hl := hi.2
  unfold lastB at hl
  rw [this] at hl
  simp at hl
theorem due_apart {g : Gr} (G : Grd g) : (dueBx g).Pairwise Apart := by
  have key : ∀ (post pre : List (List Bool)), g.t = pre ++ post → (dueL g.hs g.ws post pre.length).Pairwise Apart := by
    intro post
    induction post with
    | nil => intro pre e; simp [dueL]
    | cons r post ih =>
      intro pre e
      have hk : pre.length < g.t.length := by rw [e]; simp
      have er : g.t[pre.length] = r := by simp [e]
      have hrow := row_apart G hk
      rw [er] at hrow
      have hrest := ih (pre ++ [r]) (by rw [e]; simp)
      rw [List.length_append, List.length_singleton] at hrest
      simp only [dueL]
      refine List.pairwise_append.mpr ⟨hrow, hrest, fun x hx y hy h w hh hw h1 h2 => ?_⟩
      obtain ⟨i, hi, hl, rfl⟩ := mem_row.mp hx
      obtain ⟨j, hj, hy⟩ := mem_due.mp hy
      obtain ⟨i2, hi2, hl2, rfl⟩ := mem_row.mp hy
      have hk2 : pre.length + 1 + j < g.t.length := by rw [e]; simp; omega
      have er2 : g.t[pre.length + 1 + j] = post[j] := by
        have : (pre ++ r :: post)[pre.length + 1 + j]? = post[j]? := by
          rw [List.getElem?_append_right (by omega), show pre.length + 1 + j - pre.length = j + 1 by omega]
          simp
        have q : g.t[pre.length + 1 + j]? = post[j]? := by rw [e]; exact this
        rw [List.getElem?_eq_getElem hk2, List.getElem?_eq_getElem hj] at q
        exact Option.some.inj q
      have e1 := (in_row G hk (by rw [er]; exact hi) (by rw [er]; exact hl) hh hw).mp (by rw [er]; exact h1)
      have e2 := (in_row G hk2 (by rw [er2]; exact hi2) (by rw [er2]; exact hl2) hh hw).mp (by rw [er2]; exact h2)
      omega
  exact key g.t [] rfl
theorem due_ok {g : Gr} (G : Grd g) (h9 : ∀ x ∈ g.hs, x ≤ 1000000000) (w9 : ∀ x ∈ g.ws, x ≤ 1000000000) : ∀ x ∈ dueBx g, okBx x := by
  have fst : ∀ (st : List Int) (asc : st.Pairwise (· < ·)) (h0 : st[0]? = some 1) (h9 : ∀ x ∈ st, x ≤ 1000000000) (s i : Nat), s ≤ i → i < st.length → (1 ≤ st.getD s 0 ∧ st.getD s 0 ≤ 1000000000) ∧ okEnd (st.getD s 0) (endA st i) = true := by
    intro st asc h0 h9 s i hs hi
    have hsl : s < st.length := by omega
    rw [show st.getD s 0 = st[s] by simp [List.getD, hsl]]
    refine ⟨⟨asc_first asc h0 _ (List.getElem_mem hsl), h9 _ (List.getElem_mem hsl)⟩, ?_⟩
    unfold endA
    by_cases hl : i + 1 < st.length
    · rw [List.getElem?_eq_getElem hl]
      have := List.pairwise_iff_getElem.mp asc s (i + 1) hsl hl (by omega)
      have := h9 _ (List.getElem_mem hl)
      simp [okEnd]
      omega
    · rw [List.getElem?_eq_none (by omega)]
      rfl
  intro x hx
  obtain ⟨j, hj, hx⟩ := mem_due.mp hx
  obtain ⟨i, hi, hl, rfl⟩ := mem_row.mp hx
  rw [Nat.zero_add]
  have hwl := G.wl _ (List.getElem_mem hj)
  obtain ⟨a1, a2⟩ := fst g.hs G.ha G.h1 h9 j j (Nat.le_refl _) (by rw [G.hl]; exact hj)
  obtain ⟨b1, b2⟩ := fst g.ws G.wa G.w1 w9 (sIdx g.t[j] i) i (sIdx_le _ _) (by omega)
  rw [← begA_s] at b1 b2
  exact ⟨a1, a2, b1, b2⟩
/-- a set whose borders are among g's -/
theorem asc_sub : ∀ (b a : List Int), a.Pairwise (· < ·) → b.Pairwise (· < ·) → (∀ x ∈ a, x ∈ b) → a.Sublist b
  | [], a, _, _, h => by
    cases a with
    | nil => exact .slnil
    | cons x a => exact absurd (h x (by simp)) (by simp)
  | y :: b, [], _, _, _ => List.nil_sublist _
  | y :: b, x :: a, ha, hb, h => by
    obtain ⟨a1, a2⟩ := List.pairwise_cons.mp ha
    obtain ⟨b1, b2⟩ := List.pairwise_cons.mp hb
    by_cases e : x = y
    · subst e
      refine .cons₂ _ (asc_sub b a a2 b2 fun z hz => ?_)
      rcases List.mem_cons.mp (h z (by simp [hz])) with q | q
      · have := a1 z hz
        omega
      · exact q
    · have hx : x ∈ b := (List.mem_cons.mp (h x (by simp))).resolve_left e
      have hyx := b1 x hx
      refine .cons _ (asc_sub b (x :: a) ha b2 fun z hz => ?_)
      rcases List.mem_cons.mp (h z hz) with q | q
      · exfalso
        rcases List.mem_cons.mp hz with q2 | q2
        · omega
        · have := a1 z q2
          omega
      · exact q
theorem endA_change {st : List Int} {n : Int} {s i : Nat} (asc : st.Pairwise (· < ·)) (hs : s < st.length) (h : inS (st.getD s 0, endA st i) (n - 1) ≠ inS (st.getD s 0, endA st i) n) : n ∈ st := by
  have e : st.getD s 0 = st[s] := by simp [List.getD, hs]
  by_cases q : n = st[s]
  · rw [q]; exact List.getElem_mem hs
  · unfold endA at h
    by_cases hl : i + 1 < st.length
    · rw [List.getElem?_eq_getElem hl, e] at h
      by_cases q2 : n = st[i + 1]
      · rw [q2]; exact List.getElem_mem hl
      · exfalso
        apply h
        simp only [inS, Option.map_some]
        rw [Bool.eq_iff_iff]
        simp only [Bool.and_eq_true, decide_eq_true_eq]
        omega
    · exfalso
      rw [List.getElem?_eq_none (by omega), e] at h
      apply h
      simp only [inS, Option.map_none, Bool.and_true]
      rw [Bool.eq_iff_iff]
      simp only [decide_eq_true_eq]
      omega
theorem part_bd {n : Nat} {g a : Gr} (B : Bd n g) (c : Can a) (l : List Bx) (hl : ∀ x ∈ l, x ∈ dueBx g) (hm : ∀ h w, 1 ≤ h → 1 ≤ w → memG a h w = l.any fun x => inBx x h w) : Bd n a := by
  have G := B.c.toGrd
  have shape : ∀ x ∈ l, ∃ j i, j < g.hs.length ∧ i < g.ws.length ∧ ∃ s, s < g.ws.length ∧ x = ⟨g.hs.getD j 0, endA g.hs j, g.ws.getD s 0, endA g.ws i⟩ := fun x hx => by
    obtain ⟨j, hj, hx⟩ := mem_due.mp (hl x hx)
    obtain ⟨i, hi, _, rfl⟩ := mem_row.mp hx
    have hwl := G.wl _ (List.getElem_mem hj)
    refine ⟨j, i, by rw [G.hl]; exact hj, by omega, sIdx g.t[j] i, ?_, ?_⟩
    · have := sIdx_le g.t[j] i; omega
    · rw [Nat.zero_add, begA_s]
  have any_ne : ∀ {p q : Bx → Bool}, l.any p ≠ l.any q → ∃ x ∈ l, p x ≠ q x := fun {p q} h => by
    refine Classical.byContradiction fun hc => h ?_
    have : ∀ x ∈ l, p x = q x := fun x hx => Classical.byContradiction fun hq => hc ⟨x, hx, hq⟩
    rw [Bool.eq_iff_iff, List.any_eq_true, List.any_eq_true]
    exact ⟨fun ⟨x, hx, hp⟩ => ⟨x, hx, (this x hx) ▸ hp⟩, fun ⟨x, hx, hp⟩ => ⟨x, hx, (this x hx).symm ▸ hp⟩⟩
  refine ⟨c, Nat.le_trans (asc_sub g.hs a.hs c.ha G.ha fun k hk => ?_).length_le B.h, Nat.le_trans (asc_sub g.ws a.ws c.wa G.wa fun k hk => ?_).length_le B.w⟩
  · rcases (c.hs_iff k).mp hk with rfl | ⟨h2, w, hw, hne⟩
    · exact List.mem_of_getElem? G.h1
    · rw [hm _ _ (by omega) hw, hm _ _ (by omega) hw] at hne
      obtain ⟨x, hx, hne⟩ := any_ne hne
      obtain ⟨j, i, hj, hi, s, hs, rfl⟩ := shape x hx
      refine endA_change (s := j) (i := j) G.ha hj fun q => hne ?_
      show (inS (g.hs.getD j 0, endA g.hs j) (k - 1) && _) = (inS (g.hs.getD j 0, endA g.hs j) k && _)
      rw [q]
  · rcases (c.ws_iff k).mp hk with rfl | ⟨h2, h, hh, hne⟩
    · exact List.mem_of_getElem? G.w1
    · rw [hm _ _ hh (by omega), hm _ _ hh (by omega)] at hne
      obtain ⟨x, hx, hne⟩ := any_ne hne
      obtain ⟨j, i, hj, hi, s, hs, rfl⟩ := shape x hx
      refine endA_change (s := s) (i := i) G.wa hs fun q => hne ?_
      show (_ && inS (g.ws.getD s 0, endA g.ws i) (k - 1)) = (_ && inS (g.ws.getD s 0, endA g.ws i) k)
      rw [q]
end DL.K05
set_option linter.all false
set_option maxRecDepth 100000
set_option maxHeartbeats 1000000
namespace DL.K05
open PySem PySem.Spec PyProof.Rows L2 DL
theorem int_small {i : Int} (h : 0 ≤ i ∧ i ≤ 1000000001) : smallD (.int i) = true := by
  simp [smallD]
  omega
structure BxB (x : Bx) : Prop where
  a : 0 ≤ x.a ∧ x.a ≤ 1000000001
  b : ∀ v, x.b = some v → 0 ≤ v ∧ v ≤ 1000000001
  c : 0 ≤ x.c ∧ x.c ≤ 1000000001
  d : ∀ v, x.d = some v → 0 ≤ v ∧ v ≤ 1000000001
theorem opt_small {o : Option Int} (h : ∀ v, o = some v → 0 ≤ v ∧ v ≤ 1000000001) : smallD (optD o) = true := by
  cases o with
  | none => rfl
  | some v => exact int_small (h v rfl)
theorem opt_wt (o : Option Int) : wtD (optD o) ≤ 40 := by cases o <;> simp [optD, wtD]
theorem opt_shal (n : Nat) (o : Option Int) : shal n (optD o) = true := by cases o <;> cases n <;> rfl
theorem bx_shal (n : Nat) (x : Bx) : shal (n + 1) (bxD x) = true := by
  simp only [bxD, shal, shals, opt_shal, Bool.and_true, Bool.true_and]
theorem bxs_shal (n : Nat) : ∀ l : List Bx, shals (n + 1) (l.map bxD) = true
  | [] => rfl
  | x :: l => by
    show (shal (n + 1) (bxD x) && shals (n + 1) (l.map bxD)) = true
    rw [bx_shal, bxs_shal n l]; rfl
theorem bx_small {x : Bx} (h : BxB x) : smallD (bxD x) = true := by
  simp only [bxD, smallD, smallDs]
  have h1 := int_small h.a
  have h2 := opt_small h.b
  have h3 := int_small h.c
  have h4 := opt_small h.d
  simp only [smallD] at h1 h3
  rw [h1, h2, h3, h4]
  rfl
theorem bxs_small : ∀ l : List Bx, (∀ x ∈ l, BxB x) → smallDs (l.map bxD) = true
  | [], _ => rfl
  | x :: l, h => by
    show (smallD (bxD x) && smallDs (l.map bxD)) = true
    rw [bx_small (h x (by simp)), bxs_small l fun y hy => h y (by simp [hy])]; rfl
theorem bxs_wt : ∀ l : List Bx, wtDs (l.map bxD) ≤ 200 * l.length
  | [] => Nat.le_refl _
  | x :: l => by
    have ih := bxs_wt l
    have h1 := opt_wt x.b
    have h2 := opt_wt x.d
    show wtD (bxD x) + 1 + wtDs (l.map bxD) ≤ _
    simp only [bxD, wtD, wtDs, List.length_cons]
    omega
theorem bx_bd {x : Bx} (h : okBx x) : BxB x := by
  obtain ⟨h1, h2, h3, h4⟩ := h
  refine ⟨by omega, fun v hv => ?_, by omega, fun v hv => ?_⟩
  · rw [hv] at h2
    simp [okEnd] at h2
    omega
  · rw [hv] at h4
    simp [okEnd] at h4
    omega
/-- what is told twice may be written out -/
theorem told_repr {l : List Bx} (h : ∀ x ∈ l, okBx x) (hl : l.length ≤ 1000) : reprOk (.lst [.lst (l.map bxD), .lst (l.map bxD)]) = true := by
  refine reprOk_of ?_ ?_ ?_
  · show (shal 59 (.lst (l.map bxD)) && (shal 59 (.lst (l.map bxD)) && true)) = true
    rw [show shal 59 (.lst (l.map bxD)) = true from bxs_shal 57 l]; rfl
  · show (smallDs (l.map bxD) && (smallDs (l.map bxD) && true)) = true
    rw [bxs_small l fun x hx => bx_bd (h x hx)]; rfl
  · have := bxs_wt l
    show wtDs (l.map bxD) + 1 + (wtDs (l.map bxD) + 1 + 0) ≤ _
    omega
structure TG (g : Gr) : Prop where
  b : Bd 30 g
  h9 : ∀ x ∈ g.hs, x ≤ 1000000000
  w9 : ∀ x ∈ g.ws, x ≤ 1000000000
theorem TG.gk {g : Gr} (T : TG g) : Gk g where
  hl := T.b.c.hl
  rl := T.b.c.wl
  h0 := (List.getElem?_eq_some_iff.mp T.b.c.h1).1
  h1 := Nat.le_trans T.b.h (by decide)
  w1 := Nat.le_trans T.b.w (by decide)
theorem TG.len {g : Gr} (T : TG g) : (dueBx g).length ≤ 900 := by
  have z := dueL_len g.hs g.ws 30 g.t 0 fun r hr => by rw [T.b.c.wl r hr]; exact T.b.w
  have h := T.b.h
  rw [T.b.c.hl] at h
  exact Nat.le_trans z (by omega)
theorem in63 {n : Nat} (hn : n ≤ 1000000) : (0 : Int) ≤ (n : Int) ∧ (n : Int) < 2 ^ 63 := by
  constructor
  · omega
  · have : (1000001 : Int) ≤ 2 ^ 63 := by decide
    omega
theorem lenOwn_eq {n : Nat} {x : DV} {μ : List Cel} (hi : insC x μ = some 23) (h : g_Sizes_len [x] μ = .ok (.d (.int (n : Nat))) μ) (hn : n ≤ 1000000) : lenOwnG 23 g_Sizes_len x μ = .ok (.d (.int (n : Nat))) μ := by
  refine WE.eq ?_
  rw [we_lenOwn, h]
  exact ⟨hi, (n : Int), rfl, in63 hn, rfl, rfl⟩
theorem boolL_eq {n : Nat} {x : DV} {μ : List Cel} (hi : insC x μ = some 23) (h : g_Sizes_len [x] μ = .ok (.d (.int (n : Nat))) μ) (hn : n ≤ 1000000) : boolLG 23 g_Sizes_len x μ = .ok (.d (.bl (n != 0))) μ := by
  refine WE.eq ?_
  rw [we_boolL, h]
  have e : ((n : Int) != 0) = (n != 0) := by
    cases n with
    | zero => rfl
    | succ m => simp; omega
  exact ⟨hi, (n : Int), rfl, in63 hn, by rw [e], rfl⟩
theorem ne_str (s : List Nat) (h : shal 60 (.str s) = true) (μ : List Cel) : neB (.d (.str s)) (.d (.str s)) μ = .ok (.d (.bl false)) μ := by
  simp only [neB, h, Bool.and_self, if_true, eqD_str, okD]
  rfl
theorem ne_int (a : Int) (μ : List Cel) : neB (.d (.int a)) (.d (.int a)) μ = .ok (.d (.bl false)) μ := by simp [neB, shal, eqD, okD]
theorem ne_bl (a : Bool) (μ : List Cel) : neB (.d (.bl a)) (.d (.bl a)) μ = .ok (.d (.bl false)) μ := by simp [neB, shal, eqD, okD]
theorem ne_nil (l : List Bx) (μ : List Cel) : neB (.d (.lst (l.map bxD))) (.d (.lst [])) μ = .ok (.d (.bl (l.length != 0))) μ := by
  have h : shal 60 (.lst (l.map bxD)) = true := bxs_shal 58 l
  have h2 : shal 60 (.lst []) = true := rfl
  simp only [neB, h, h2, Bool.and_self, if_true, okD]
  cases l with
  | nil => rfl
  | cons x l => rfl
theorem tOr_ff {a b : TX} {ρ : Rho} {μ : List Cel} (h1 : a ρ μ = .ok false μ) (h2 : b ρ μ = .ok false μ) : tOrX a b ρ μ = .ok false μ := tOr_b (x := false) (y := false) h1 fun _ => h2
theorem empty_len (μ : List Cel) (hc : Clo μ) : g_Sizes_len [.d (insG (szG []))] μ = .ok (.d (.int ((0 : Nat) : Int))) μ := by
  have q := len_eq (szG []) (by decide) (by decide) μ hc
  rw [show (runsIn (szG []).t 0).length = 0 by decide] at q
  exact q
theorem empty_of {g : Gr} (c : Can g) (h : ∀ a b, 1 ≤ a → 1 ≤ b → memG g a b = false) : g = szG [] := c.ext (szG_can [] (by simp)) fun a b ha hb => by rw [h a b ha hb, szG_nil_mem a b ha hb]
theorem one_mem (x : Bx) (h w : Int) (hh : 1 ≤ h) (hw : 1 ≤ w) : memG (szG [x]) h w = inBx x h w := by
  rw [szG_mem [x] (by simp) h w hh hw]
  simp [inBx]
theorem eC3_ok' {g : Gn} {a b c : EX} {x y z : DV} {ρ : Rho} {μ : List Cel} {r : Out DV} (h1 : a ρ μ = .ok x μ) (h2 : b ρ μ = .ok y μ) (h3 : c ρ μ = .ok z μ) (h : g [x, y, z] μ = r) : eCall 3 g (as1 a (as1 b (as1 c as0))) ρ μ = r := by
  unfold eCall as1 as0
  rw [h1, bind_ok, h2, bind_ok, h3]
  exact h
theorem eAnd_t {a b : EX} {ρ : Rho} {μ : List Cel} {r : Out DV} (h1 : a ρ μ = .ok (.d (.bl true)) μ) (h2 : b ρ μ = r) : eAnd a b ρ μ = r := by
  unfold eAnd
  rw [h1, bind_ok]
  exact h2
theorem mk1c {x : Bx} (ho : okBx x) {ρ : Rho} {i : Nat} (h : ρ[i]? = some (some (.d (bxD x)))) (μ : List Cel) (hc : Clo μ) : eCall 1 (mkG true 23 g_Sizes_init_2) (as1 (eV i) as0) ρ μ = .ok (.d (insG (szG [x]))) μ :=
  eC1_ok (eV_ok h) (mk1_eq x ho μ hc)
theorem int_text {n : Nat} (h : n ≤ 900) : ((n : Int).natAbs).log2 < 1920 ∧ (intS n).length ≤ 900 ∧ shal 60 (.str (reprS n)) = true := by
  have hl := log_small (n := n) (by omega)
  refine ⟨by simpa using hl, ?_, ?_⟩
  · have e := int_text_length_le (k := 20) (a := (n : Int)) (by decide) (by
      rcases Nat.eq_zero_or_pos n with h0 | hp
      · subst h0; decide
      · exact (Nat.log2_lt (by simpa using (by omega : n ≠ 0))).mpr (by simpa using Nat.lt_of_le_of_lt h (by decide)))
    unfold intS
    have e2 : (Str.ofString (toString (n : Int))).cps.toList.length = (Str.ofString (toString (n : Int))).length := by
      simp [Str.length]
    rw [e2, PySem.ofString_length]
    omega
  · show ((reprS n).all fun c => decide (c < 128)) = true
    unfold reprS
    rw [List.all_append, List.all_append, Bool.and_eq_true, Bool.and_eq_true]
    refine ⟨⟨by decide, ?_⟩, by decide⟩
    rw [List.all_eq_true]
    exact fun c hc => decide_eq_true (asc_int n c hc)
theorem told_eq {g : Gr} (T : TG g) (μ : List Cel) (hc : Clo μ) : g__law_told_right [.d (insG g)] μ = .ok (.d (.bl true)) μ := by
  refine WE.eq ?_
  unfold g__law_told_right
  rw [we_fnG]
  have G := T.gk
  have ok := due_ok T.b.c.toGrd T.h9 T.w9
  have hlen := T.len
  have ln : g_Sizes_len [.d (insG g)] μ = .ok (.d (.int ((dueBx g).length : Nat))) μ := by
    have q := len_eq g (by have := G.hl; have := G.h1; omega) (fun r hr => by rw [G.rl r hr]; exact G.w1) μ hc
    rw [runs_due g.hs g.ws] at q
    exact q
  have rp : g_Sizes_repr [.d (insG g)] μ = .ok (.d (.str (reprS (dueBx g).length))) μ := by
    have q := repr_eq g (by have := G.hl; have := G.h1; omega) (fun r hr => by rw [G.rl r hr]; exact G.w1) μ hc
    rw [runs_due g.hs g.ws] at q
    exact q
  rw [show rho0 5 [.d (insG g)] = [some (.d (insG g)), none, none, none, none] from rfl]
  unfold b__law_told_right
  rw [st_set (eC3_ok' (prop_ok (g := g) rfl (heights_eq g μ)) (prop_ok (g := g) rfl (widths_eq g μ)) (prop_ok (g := g) rfl (table_eq g μ)) (due_eq G μ hc))]
  simp only [List.set]
  generalize hD : (dueBx g).map bxD = D
  have hb : ∀ ρ : Rho, ρ[0]? = some (some (.d (insG g))) → eGenM 23 11 y_Sizes_boxes (eV 0) ρ μ = .ok (.d (.lst D)) μ := fun ρ h => by rw [← hD]; exact boxes_ok G μ hc h
  have l2 : (0 + 1 + 1 : Nat) ≤ LIM := by decide
  have h2 : eN eLstD (as1 (eGenM 23 11 y_Sizes_boxes (eV 0)) (as1 (eGenM 23 11 y_Sizes_boxes (eV 0)) as0)) [some (.d (insG g)), some (.d (.lst D)), none, none, none] μ = .ok (.d (.lst [.lst D, .lst D])) μ := by
    unfold eN as1 as0
    rw [hb _ rfl, bind_ok, hb _ rfl]
    simp [eLstD, dats, okD, l2]
  rw [st_set h2]
  simp only [List.set]
  have hrep : reprOk (.lst [.lst D, .lst D]) = true := by rw [← hD]; exact told_repr ok (by omega)
  have hsh : shal 60 (.lst [.lst D, .lst D]) = true := by
    rw [← hD]
    show (shal 59 (.lst ((dueBx g).map bxD)) && (shal 59 (.lst ((dueBx g).map bxD)) && true)) = true
    rw [show shal 59 (.lst ((dueBx g).map bxD)) = true from bxs_shal 57 _]; rfl
  generalize hR : ([some (.d (insG g)), some (.d (.lst D)), some (.d (.lst [.lst D, .lst D])), none, none] : Rho) = R
  have v0 : R[0]? = some (some (.d (insG g))) := by rw [← hR]; rfl
  have v1 : R[1]? = some (some (.d (.lst D))) := by rw [← hR]; rfl
  have v2 : R[2]? = some (some (.d (.lst [.lst D, .lst D]))) := by rw [← hR]; rfl
  have rg : reprG (.d (.lst [.lst D, .lst D])) μ = .ok (.d (.str (reprD (.lst [.lst D, .lst D])))) μ := by
    show (if reprOk (.lst [.lst D, .lst D]) then okD _ μ else Out.stuck) = _
    rw [if_pos hrep]
    rfl
  have h3 : eN eLstD (as1 (eV 1) (as1 (eV 1) as0)) R μ = .ok (.d (.lst [.lst D, .lst D])) μ := eN2_ok (eV_ok v1) (eV_ok v1) (by simp [eLstD, dats, okD, l2])
  have hln : eN lenG (as1 (eV 1) as0) R μ = .ok (.d (.int ((dueBx g).length : Nat))) μ := eN1_ok (eV_ok v1) (by rw [← hD]; simp [lenG, lenN, okD])
  have hlo := lenOwn_eq (x := .d (insG g)) rfl ln (by omega)
  rw [st_iff (tOr_ff (tB_ok (e2_ok (e1_ok (eV_ok v2) rg) (e1_ok h3 rg) (ne_str _ (shal_repr hsh) μ)))
    (tOr_ff (tB_ok (e2_ok (e1_ok (eV_ok v0) hlo) hln (ne_int _ μ)))
      (tB_ok (e2_ok (e1_ok (eV_ok v0) (boolL_eq (x := .d (insG g)) rfl ln (by omega))) (e2_ok (eV_ok v1) (y := .d (.lst [])) (μ2 := μ) (by simp [eN, as0, eLstD, dats, okD]) (by rw [← hD]; exact ne_nil _ μ)) (ne_bl _ μ)))))]
  rw [st_set (v := .d (insG (szG []))) (μ' := μ) (by
    unfold eCall as0
    rw [bind_ok, if_pos (show ([] : List DV).length = 0 from rfl)]
    exact mk0_eq μ hc)]
  rw [← hR]
  simp only [List.set]
  rw [ws_seq, ws_for]
  have hit : iSeq (eV 1) [some (.d (insG g)), some (.d (.lst D)), some (.d (.lst [.lst D, .lst D])), some (.d (insG (szG []))), none] μ = .ok D μ := by
    unfold iSeq
    rw [eV_ok (x := .d (.lst D)) rfl]
    rfl
  rw [hit]
  show WS (forL _ _ _ _ _) _ _ _
  rw [← hD]
  refine ws_forI bxD (fun pre ρ μ' => μ = μ' ∧ ∃ a x4, Bd 30 a ∧ (∀ h w, 1 ≤ h → 1 ≤ w → memG a h w = pre.any fun x => inBx x h w) ∧ ρ = [some (.d (insG g)), some (.d (.lst D)), some (.d (.lst [.lst D, .lst D])), some (.d (insG a)), x4]) (dueBx g) ?_ ?_ ?_
  · refine ⟨rfl, szG [], none, (szG_bd [] (by simp)).mono (by decide), fun h w hh hw => ?_, by rw [hD]⟩
    rw [szG_nil_mem h w hh hw]
    rfl
  · rintro pre x post ρ _ e ⟨rfl, a, x4, B, hm, rfl⟩
    have hx : x ∈ dueBx g := by rw [e]; simp
    have hox := ok x hx
    rw [ws_gN]
    simp only [List.set]
    have B1 : Bd 3 (szG [x]) := szG_bd [x] (by simpa using hox)
    have h1 := fun ρ h => mk1c (ρ := ρ) (i := 4) hox h μ hc
    have apart := due_apart T.b.c.toGrd
    rw [e] at apart
    have hap : ∀ y ∈ pre, Apart y x := (List.pairwise_append.mp apart).2.2 |> fun q => fun y hy => q y hy x (by simp)
    have emp : andG (szG [x]) a = szG [] := empty_of (andG_bd B1 B).c fun h w hh hw => by
      rw [andG_mem B1 B h w hh hw, one_mem x h w hh hw, hm h w hh hw]
      rw [Bool.and_eq_false_iff]
      by_cases q : inBx x h w = true
      · refine .inr ?_
        rw [Bool.eq_false_iff]
        intro z
        obtain ⟨y, hy, hy2⟩ := List.any_eq_true.mp z
        exact hap y hy h w hh hw hy2 q
      · exact .inl (by simpa using q)
    have hand : e2 (binOwnG 23 g_Sizes_and) (eCall 1 (mkG true 23 g_Sizes_init_2) (as1 (eV 4) as0)) (eV 3) [some (.d (insG g)), some (.d (.lst D)), some (.d (.lst [.lst D, .lst D])), some (.d (insG a)), some (.d (bxD x))] μ = .ok (.d (insG (szG []))) μ := by
      refine e2_ok (h1 _ rfl) (eV_ok (x := .d (insG a)) rfl) ?_
      rw [and_eq B1 B (by decide) hc, emp]
    have hl0 : lenOwnG 23 g_Sizes_len (.d (insG (szG []))) μ = .ok (.d (.int 0)) μ := lenOwn_eq (n := 0) rfl (empty_len μ hc) (by decide)
    rw [st_iff (tB_ok (e2_ok (e1_ok hand hl0) eK_ok (ne_int 0 μ)))]
    rw [st_set (v := .d (insG (orG a (szG [x])))) (μ' := μ) (e2_ok (eV_ok (x := .d (insG a)) rfl) (h1 _ rfl) (or_eq B B1 (by decide) hc))]
    rw [ws_skip]
    have hm2 : ∀ h w, 1 ≤ h → 1 ≤ w → memG (orG a (szG [x])) h w = (pre ++ [x]).any fun x => inBx x h w := fun h w hh hw => by
      rw [orG_mem B B1 h w hh hw, hm h w hh hw, one_mem x h w hh hw]
      simp
    exact ⟨rfl, orG a (szG [x]), _, part_bd T.b (orG_bd B B1).c (pre ++ [x]) (fun y hy => by
      rw [e]
      rcases List.mem_append.mp hy with q | q
      · exact List.mem_append_left _ q
      · rw [List.mem_singleton.mp q]; simp) hm2, hm2, rfl⟩
  · rintro ρ _ ⟨rfl, a, x4, B, hm, rfl⟩
    have ea : a = g := B.c.ext T.b.c fun h w hh hw => by rw [hm h w hh hw, due_mem T.b.c.toGrd h w hh hw]
    subst ea
    generalize hR : ([some (.d (insG a)), some (.d (.lst D)), some (.d (.lst [.lst D, .lst D])), some (.d (insG a)), x4] : Rho) = R at v0 ⊢
    have v0 : R[0]? = some (some (.d (insG a))) := by rw [← hR]; rfl
    have v1 : R[1]? = some (some (.d (.lst D))) := by rw [← hR]; rfl
    have v3 : R[3]? = some (some (.d (insG a))) := by rw [← hR]; rfl
    have hln : eN lenG (as1 (eV 1) as0) R μ = .ok (.d (.int ((dueBx a).length : Nat))) μ := eN1_ok (eV_ok v1) (by rw [← hD]; simp [lenG, lenN, okD])
    have hrp : e2 eqB (e1 (reprOwnG 23 g_Sizes_repr) (eV 0)) (e2 addD (e2 addD (eK (.str [83, 105, 122, 101, 115, 40])) (e1 strG (eN lenG (as1 (eV 1) as0)))) (eK (.str [32, 98, 111, 120, 101, 115, 41]))) R μ = .ok (.d (.bl true)) μ := by
      have hlr : reprOwnG 23 g_Sizes_repr (.d (insG a)) μ = .ok (.d (.str (reprS (dueBx a).length))) μ := by
        refine WE.eq ?_
        rw [we_reprOwn, rp]
        exact ⟨rfl, _, rfl, rfl, rfl⟩
      obtain ⟨s1, s2, s3⟩ := int_text (n := (dueBx a).length) (by omega)
      have hstr : strG (.d (.int ((dueBx a).length : Nat))) μ = .ok (.d (.str (intS ((dueBx a).length : Nat)))) μ := by
        show (if _ then _ else _) = _
        rw [if_pos ⟨s1, Nat.le_trans s2 (by decide)⟩]
        rfl
      refine e2_ok (e1_ok (eV_ok v0) hlr) (y := .d (.str (reprS (dueBx a).length))) (μ2 := μ) ?_ ?_
      · refine e2_ok (e2_ok eK_ok (e1_ok hln hstr) (r := .ok (.d (.str ([83, 105, 122, 101, 115, 40] ++ intS ((dueBx a).length : Nat)))) μ) ?_) eK_ok ?_
        · show (if _ then _ else _) = _
          rw [if_pos (by simp only [List.length_cons, List.length_nil]; exact lim1000' (by omega))]
          rfl
        · show (if _ then _ else _) = _
          rw [if_pos (by simp only [List.length_append, List.length_cons, List.length_nil]; exact lim1000' (by omega))]
          rfl
      · show (if _ then _ else _) = _
        rw [if_pos (by rw [s3]; rfl), eqD_str]
        rfl
    rw [st_ret (eAnd_t hrp (e2_ok (eV_ok v3) (eV_ok v0) (eqOwn_self a μ)))]
    exact ⟨rfl, cutM_of rfl⟩
end DL.K05
set_option linter.all false
set_option maxRecDepth 100000
set_option maxHeartbeats 1000000
namespace DL.K05
open PySem PySem.Spec PyProof.Rows L2 DL
structure Rg (g : Gr) : Prop where
  h : ∀ x ∈ g.hs, x ≤ 1000000000
  w : ∀ x ∈ g.ws, x ≤ 1000000000
theorem joined_hs {g : Gr} (h : g.hs.length = g.t.length) : ∀ x ∈ (joined g).hs, x ∈ g.hs := fun x hx => by
  obtain ⟨i, hi, rfl⟩ := List.mem_map.mp (show x ∈ (kept g.t).map fun i => g.hs.getD i 0 from hx)
  have hlt := kept_lt hi
  rw [List.getD_eq_getElem?_getD, List.getElem?_eq_getElem (by omega)]
  exact List.getElem_mem _
theorem joined_ws {g : Gr} : ∀ x ∈ (joined g).ws, x ∈ g.ws := fun x hx => by
  obtain ⟨i, hi, rfl⟩ := List.mem_map.mp (show x ∈ (kept (colsOf g)).map fun j => g.ws.getD j 0 from hx)
  have hlt := kept_lt hi
  rw [cols_len] at hlt
  rw [List.getD_eq_getElem?_getD, List.getElem?_eq_getElem hlt]
  exact List.getElem_mem _
theorem starts_le {l : List (Int × Option Int)} (h : ∀ p ∈ l, midE p.1 p.2) : ∀ x ∈ starts l, x ≤ 1000000000 := fun x hx => by
  have := (sSet_mem x _).mp hx
  rcases List.mem_append.mp this with q | q
  · rcases List.mem_cons.mp q with rfl | q
    · decide
    · obtain ⟨p, hp, rfl⟩ := List.mem_map.mp q
      have := (h p hp).1
      omega
  · obtain ⟨p, hp, e⟩ := List.mem_filterMap.mp q
    obtain ⟨v, hv, rfl⟩ := Option.map_eq_some_iff.mp e
    have := (h p hp).2 v hv
    omega
theorem szG_rg (bs : List Bx) (ho : ∀ x ∈ bs, okBm x) : Rg (szG bs) := by
  have G := gridOf_grd bs fun x hx => (ho x hx).1
  refine ⟨fun x hx => ?_, fun x hx => ?_⟩
  · refine starts_le (l := bs.map Bx.r) (fun p hp => ?_) x (joined_hs G.hl x hx)
    obtain ⟨y, hy, rfl⟩ := List.mem_map.mp hp
    exact (ho y hy).2.1
  · refine starts_le (l := bs.map Bx.q) (fun p hp => ?_) x (joined_ws x hx)
    obtain ⟨y, hy, rfl⟩ := List.mem_map.mp hp
    exact (ho y hy).2.2
theorem opG_rg (f : Bool → Bool → Bool) {a b : Gr} (ca : Can a) (cb : Can b) (ra : Rg a) (rb : Rg b) : Rg (opG f a b) := by
  have G := mixG_grd f ca cb
  refine ⟨fun x hx => ?_, fun x hx => ?_⟩
  · have := (sSet_mem x _).mp (joined_hs G.hl x hx)
    exact (List.mem_append.mp this).elim (ra.h x) (rb.h x)
  · have := (sSet_mem x _).mp (joined_ws x hx)
    exact (List.mem_append.mp this).elim (ra.w x) (rb.w x)
theorem evG_rg : Rg evG := ⟨by simp [evG], by simp [evG]⟩
end DL.K05
set_option linter.all false
set_option maxRecDepth 100000
set_option maxHeartbeats 1000000
namespace DL.K05
open PySem PySem.Spec PyProof.Rows L2 DL
theorem tg_sz (bs : List Bx) (hb : bs.length ≤ 4) (ho : ∀ x ∈ bs, okBm x) : TG (szG bs) :=
  ⟨(szG_bd bs fun x hx => (ho x hx).1).mono (by omega), (szG_rg bs ho).h, (szG_rg bs ho).w⟩
theorem tg_not (bs : List Bx) (hb : bs.length ≤ 4) (ho : ∀ x ∈ bs, okBm x) : TG (notG (szG bs)) := by
  have b := szG_bd bs fun x hx => (ho x hx).1
  have r := opG_rg (fun x y => x && !y) evG_bd.c b.c evG_rg (szG_rg bs ho)
  exact ⟨(notG_bd b).mono (by omega), r.h, r.w⟩
section
variable {n : Nat}
abbrev rhR (n : Nat) (a b : Option DV) : Rho := [some (.c n), a, b]
theorem right_eq (n : Nat) (μ : List Cel) (hp : Pool μ n) (hc : Clo μ) : ∃ μ', g__law_right [.c n] μ = .ok (.d (.bl true)) μ' ∧ PS n μ μ' := by
  have key : WE (g__law_right [.c n] μ) (fun v μ' => v = .d (.bl true) ∧ PS n μ μ') X0 := by
    unfold g__law_right
    rw [we_fnG]
    unfold b__law_right
    show WS (sSeq _ _ (rhR n none none) μ) _ _ _
    have r3 : iRange1 (eK (.int 5)) (rhR n none none) μ = .ok ((List.range 5).map fun i : Nat => .int (i : Int)) μ := by
      unfold iRange1
      rw [eK_ok, bind_ok, show rng1 (.d (.int 5)) = some (rngD 0 5) from rng1_nat 5 (by decide)]
      simp [rngD, ofS]
    rw [ws_seq, ws_for, r3, we_ok]
    refine ws_forI (fun i : Nat => .int (i : Int)) (fun _ ρ μ' => PS n μ μ' ∧ ∃ a b, ρ = rhR n a b) (List.range 5) ⟨hp.refl, _, _, rfl⟩ ?_ ?_
    · rintro pre x post ρ μ1 ex ⟨ps, a, b, rfl⟩
      rw [ws_gN]
      show WS (sSeq _ _ (rhR n (some (.d (.int (x : Int)))) b) μ1) _ _ _
      obtain ⟨bs, μ3, q1, q2, q3, q4⟩ := boxes_eq n 4 (by decide) μ1 ps.pool (ps.clo hc)
      have q1 : g__law_boxes [.c n, .d (.int 4)] μ1 = .ok (.d (.lst (bs.map bxD))) μ3 := q1
      have c3 := q4.clo (ps.clo hc)
      have s1 : g__law_sizes [.d (.lst (bs.map bxD))] μ3 = .ok (.d (insG (szG bs))) μ3 := law_sizes_eq bs q2 (fun x hx => (q3 x hx).1) μ3 c3
      rw [st_set (v := .d (insG (szG bs))) (μ' := μ3) (eC1_ok (eC2_ok (eV_ok (x := .c n) rfl) eK_ok q1) s1)]
      simp only [List.set]
      have v2 : ∀ y : Option DV, ([some (.c n), y, some (.d (insG (szG bs)))] : Rho)[2]? = some (some (.d (insG (szG bs)))) := fun _ => rfl
      have b9 := szG_bd bs fun x hx => (q3 x hx).1
      rw [st_iff (tOr_ff (tN_ok (v := true) (tT_ok (eC1_ok (eV_ok (v2 _)) (told_eq (tg_sz bs q2 q3) μ3 c3))))
        (tN_ok (v := true) (tT_ok (eC1_ok (e1_ok (eV_ok (v2 _)) (not_eq b9 (by omega) c3)) (told_eq (tg_not bs q2 q3) μ3 c3)))))]
      rw [ws_skip]
      exact ⟨ps.trans q4, _, _, rfl⟩
    · rintro ρ μ1 ⟨ps, a, b, rfl⟩
      rw [ws_seq, ws_ret, eK_ok, we_ok]
      simp only [finV, we_ok]
      rw [cutM_of ps.len]
      exact ⟨trivial, ps⟩
  obtain ⟨v, μ', e, rfl, s⟩ := key.ex
  exact ⟨μ', e, s⟩
end
end DL.K05
set_option linter.all false
set_option maxRecDepth 100000
set_option maxHeartbeats 1000000
namespace DL.K05
open PySem PySem.Spec PyProof.Rows L2 DL
def bA1 : Bx := ⟨1, none, 1, some 9⟩
def bA2 : Bx := ⟨3, some 5, 4, none⟩
def bB : Bx := ⟨1, some 1000000000, 1, some 1000000000⟩
theorem duA : dueBx (szG [bA1, bA2]) = [⟨1, some 2, 1, some 9⟩, ⟨3, some 5, 1, none⟩, ⟨6, none, 1, some 9⟩] := by kernel_rfl
theorem duB : dueBx (notG (szG [bB])) = [⟨1, some 1000000000, 1000000001, none⟩, ⟨1000000001, none, 1, none⟩] := by kernel_rfl
theorem reA : reprD (.lst [bxD ⟨1, some 2, 1, some 9⟩, bxD ⟨3, some 5, 1, none⟩, bxD ⟨6, none, 1, some 9⟩]) = [91, 40, 49, 44, 32, 50, 44, 32, 49, 44, 32, 57, 41, 44, 32, 40, 51, 44, 32, 53, 44, 32, 49, 44, 32, 78, 111, 110, 101, 41, 44, 32, 40, 54, 44, 32, 78, 111, 110, 101, 44, 32, 49, 44, 32, 57, 41, 93] := by decide +kernel
theorem okA1 : okBx bA1 := ⟨by decide, rfl, by decide, rfl⟩
theorem okA2 : okBx bA2 := ⟨by decide, rfl, by decide, rfl⟩
theorem okB : okBx bB := ⟨by decide, rfl, by decide, rfl⟩
theorem okAs : ∀ x ∈ [bA1, bA2], okBx x := fun x hx => by
  simp only [List.mem_cons, List.not_mem_nil, or_false] at hx
  rcases hx with rfl | rfl
  · exact okA1
  · exact okA2
theorem gk_of {n : Nat} {g : Gr} (b : Bd n g) (h : n ≤ 1000) : Gk g := ⟨b.c.hl, b.c.wl, (List.getElem?_eq_some_iff.mp b.c.h1).1, Nat.le_trans b.h h, Nat.le_trans b.w h⟩
theorem bdA : Bd 5 (szG [bA1, bA2]) := szG_bd _ okAs
theorem bdB0 : Bd 3 (szG [bB]) := szG_bd [bB] fun x hx => by rw [List.mem_singleton.mp hx]; exact okB
theorem bdB : Bd 4 (notG (szG [bB])) := notG_bd bdB0
abbrev rhL (ns : List Int) (a b c d : Option DV) : Rho := [some (.d (.fl (ns.map .int))), a, b, c, d, none]
theorem told_len {n m : Nat} {g : Gr} (B : Bd n g) (hn : n ≤ 30) (e : (dueBx g).length = m) (μ : List Cel) (hc : Clo μ) : g_Sizes_len [.d (insG g)] μ = .ok (.d (.int (m : Nat))) μ ∧ g_Sizes_repr [.d (insG g)] μ = .ok (.d (.str (reprS m))) μ := by
  have G := gk_of B (by omega)
  have q := len_eq g (by have := G.hl; have := G.h1; omega) (fun r hr => by rw [G.rl r hr]; exact G.w1) μ hc
  have q2 := repr_eq g (by have := G.hl; have := G.h1; omega) (fun r hr => by rw [G.rl r hr]; exact G.w1) μ hc
  rw [runs_due g.hs g.ws] at q q2
  have e' : (dueL g.hs g.ws g.t 0).length = m := e
  rw [e'] at q q2
  exact ⟨q, q2⟩
theorem wx_repr {l : List Bx} (h : ∀ x ∈ l, BxB x) (hl : l.length ≤ 100) (μ : List Cel) : reprG (.d (.lst (l.map bxD))) μ = .ok (.d (.str (reprD (.lst (l.map bxD))))) μ := by
  have hok : reprOk (.lst (l.map bxD)) = true := by
    refine reprOk_of (bxs_shal 58 l) (bxs_small l h) ?_
    have := bxs_wt l
    show wtDs (l.map bxD) ≤ _
    omega
  show (if reprOk (.lst (l.map bxD)) then okD _ μ else Out.stuck) = _
  rw [if_pos hok]
  rfl
theorem bls_rep (n : Nat) (b : Bool) : bls (List.replicate n (.bl b)) = some (List.replicate n b) := by
  rw [show List.replicate n (Dat.bl b) = (List.replicate n b).map .bl by simp]
  exact bls_map' _
theorem rng_five (n : Nat) : rng1 (.d (.int (if (2 : Int) < if (5 : Int) < (n : Int) then 5 else (n : Int) then if (5 : Int) < (n : Int) then 5 else (n : Int) else 2))) = some ((List.range (max 2 (min n 5))).map fun (i : Nat) => .int (i : Int)) := by
  have e : (if (2 : Int) < if (5 : Int) < (n : Int) then 5 else (n : Int) then if (5 : Int) < (n : Int) then 5 else (n : Int) else 2) = ((max 2 (min n 5) : Nat) : Int) := by
    split <;> split <;> omega
  rw [e, rng1_nat _ (by omega)]
  simp [rngD]
theorem tup4 {a b c d : EX} {x y z w : Dat} {ρ : Rho} {μ : List Cel} (h1 : a ρ μ = .ok (.d x) μ) (h2 : b ρ μ = .ok (.d y) μ) (h3 : c ρ μ = .ok (.d z) μ) (h4 : d ρ μ = .ok (.d w) μ) (hb : blT [x, y, z, w] = false) : eN eTupD (as1 a (as1 b (as1 c (as1 d as0)))) ρ μ = .ok (.d (.tup [x, y, z, w])) μ := by
  have l4 : (0 + 1 + 1 + 1 + 1 : Nat) ≤ LIM := by decide
  unfold eN as1 as0
  rw [h1, bind_ok, h2, bind_ok, h3, bind_ok, h4]
  simp [eTupD, dats, okD, l4, hb]
theorem law_key (ns : List Int) (hl : ns.length ≤ 63) (μ : List Cel) (hc : Clo μ) : WE (g_law [.d (.fl (ns.map .int))] μ) (fun v μ' => v = .d (.bl true)) X0 := by
  unfold g_law
  rw [we_fnG, show rho0 6 [.d (.fl (ns.map .int))] = rhL ns none none none none from rfl]
  unfold b_law
  have p9 := fun ρ => pow_ok 10 9 1000000000 (by decide) (by decide) ρ μ
  rw [st_set (v := .d (insG (szG [bA1, bA2]))) (μ' := μ) (eC2_ok (tup4 (x := .int 1) (y := .non) (z := .int 1) (w := .int 9) eK_ok eK_ok eK_ok eK_ok rfl) (tup4 (x := .int 3) (y := .int 5) (z := .int 4) (w := .non) eK_ok eK_ok eK_ok eK_ok rfl) (mk_eq [bA1, bA2] (by decide) okAs μ hc _ _ fun self μ' => init3 bA1 bA2 self μ'))]
  simp only [List.set]
  have hbA : ∀ b c d, eGenM 23 11 y_Sizes_boxes (eV 1) (rhL ns (some (.d (insG (szG [bA1, bA2])))) b c d) μ = .ok (.d (.lst ([⟨1, some 2, 1, some 9⟩, ⟨3, some 5, 1, none⟩, ⟨6, none, 1, some 9⟩].map bxD))) μ := fun b c d => by
    have q := boxes_ok (gk_of bdA (by decide)) μ hc (ρ := rhL ns (some (.d (insG (szG [bA1, bA2])))) b c d) (i := 1) rfl
    rw [duA] at q
    exact q
  have bbA : ∀ x ∈ ([⟨1, some 2, 1, some 9⟩, ⟨3, some 5, 1, none⟩, ⟨6, none, 1, some 9⟩] : List Bx), BxB x := fun x hx => by
    simp only [List.mem_cons, List.not_mem_nil, or_false] at hx
    rcases hx with rfl | rfl | rfl <;> exact ⟨by decide, fun v hv => by cases hv <;> decide, by decide, fun v hv => by cases hv <;> decide⟩
  have rA : reprG (.d (.lst (([⟨1, some 2, 1, some 9⟩, ⟨3, some 5, 1, none⟩, ⟨6, none, 1, some 9⟩] : List Bx).map bxD))) μ = _ := wx_repr bbA (by decide) μ
  rw [show reprD (.lst (([⟨1, some 2, 1, some 9⟩, ⟨3, some 5, 1, none⟩, ⟨6, none, 1, some 9⟩] : List Bx).map bxD)) = _ from reA] at rA
  rw [st_iff (tB_ok (e2_ok (e1_ok (hbA _ _ _) rA) eK_ok (ne_str _ (by decide) μ)))]
  have t1 : eCall 1 g__law_told_right (as1 (eCall 0 (mkG true 23 g_Sizes_init_1) as0) as0) (rhL ns (some (.d (insG (szG [bA1, bA2])))) none none none) μ = .ok (.d (.bl true)) μ := by
    have m0 : eCall 0 (mkG true 23 g_Sizes_init_1) as0 (rhL ns (some (.d (insG (szG [bA1, bA2])))) none none none) μ = .ok (.d (insG (szG []))) μ := by
      unfold eCall as0
      rw [bind_ok, if_pos (show ([] : List DV).length = 0 from rfl)]
      exact mk0_eq μ hc
    exact eC1_ok m0 (told_eq (tg_sz [] (by decide) (by simp)) μ hc)
  have t2 : eCall 1 g__law_told_right (as1 (fun _ μ => g_Sizes_every [.d (.cls 23)] μ) as0) (rhL ns (some (.d (insG (szG [bA1, bA2])))) none none none) μ = .ok (.d (.bl true)) μ :=
    eC1_ok (every_eq μ hc) (told_eq (g := szG [allBx]) (tg_sz [allBx] (by decide) (fun x hx => by
      rw [List.mem_singleton.mp hx]
      exact ⟨allBx_ok, ⟨by decide, fun v hv => by cases hv⟩, ⟨by decide, fun v hv => by cases hv⟩⟩)) μ hc)
  rw [st_iff (tOr_ff (tN_ok (v := true) (tT_ok t1)) (tN_ok (v := true) (tT_ok t2)))]
  have hmB : eCall 1 (mkG true 23 g_Sizes_init_2) (as1 (eN eTupD (as1 (eK (.int 1)) (as1 (e2 powD (eK (.int 10)) (eK (.int 9))) (as1 (eK (.int 1)) (as1 (e2 powD (eK (.int 10)) (eK (.int 9))) as0))))) as0) (rhL ns (some (.d (insG (szG [bA1, bA2])))) none none none) μ = .ok (.d (insG (szG [bB]))) μ :=
    eC1_ok (tup4 (x := .int 1) (y := .int 1000000000) (z := .int 1) (w := .int 1000000000) eK_ok (p9 _) eK_ok (p9 _) rfl) (mk1_eq bB okB μ hc)
  rw [st_set (v := .d (insG (notG (szG [bB])))) (μ' := μ) (e1_ok hmB (not_eq bdB0 (by decide) hc))]
  simp only [List.set]
  have p9a := fun ρ => e2_ok (p9 ρ) eK_ok (g := addD) (y := .d (.int 1)) (r := .ok (.d (.int 1000000001)) μ) (by simp [addD, okD])
  have l2 : (0 + 1 + 1 : Nat) ≤ LIM := by decide
  have hdu : ∀ ρ, eN eLstD (as1 (eN eTupD (as1 (eK (.int 1)) (as1 (e2 powD (eK (.int 10)) (eK (.int 9))) (as1 (e2 addD (e2 powD (eK (.int 10)) (eK (.int 9))) (eK (.int 1))) (as1 (eK .non) as0))))) (as1 (eN eTupD (as1 (e2 addD (e2 powD (eK (.int 10)) (eK (.int 9))) (eK (.int 1))) (as1 (eK .non) (as1 (eK (.int 1)) (as1 (eK .non) as0))))) as0)) ρ μ = .ok (.d (.lst ([⟨1, some 1000000000, 1000000001, none⟩, ⟨1000000001, none, 1, none⟩].map bxD))) μ := fun ρ =>
    eN2_ok (tup4 (x := .int 1) (y := .int 1000000000) (z := .int 1000000001) (w := .non) eK_ok (p9 _) (p9a _) eK_ok rfl) (tup4 (x := .int 1000000001) (y := .non) (z := .int 1) (w := .non) (p9a _) eK_ok eK_ok eK_ok rfl) (by simp [eLstD, dats, okD, l2, bxD, optD])
  rw [st_set (hdu _)]
  simp only [List.set]
  generalize hL : (([⟨1, some 1000000000, 1000000001, none⟩, ⟨1000000001, none, 1, none⟩] : List Bx).map bxD) = L
  have bbB : ∀ x ∈ ([⟨1, some 1000000000, 1000000001, none⟩, ⟨1000000001, none, 1, none⟩] : List Bx), BxB x := fun x hx => by
    simp only [List.mem_cons, List.not_mem_nil, or_false] at hx
    rcases hx with rfl | rfl <;> exact ⟨by decide, fun v hv => by cases hv <;> decide, by decide, fun v hv => by cases hv <;> decide⟩
  have rB := wx_repr bbB (by decide) μ
  have sB : shal 60 (.lst L) = true := by rw [← hL]; exact bxs_shal 58 _
  rw [hL] at rB
  generalize hA : some (DV.d (insG (szG [bA1, bA2]))) = A
  have hbB : eGenM 23 11 y_Sizes_boxes (eV 2) (rhL ns A (some (.d (insG (notG (szG [bB]))))) (some (.d (.lst L))) none) μ = .ok (.d (.lst L)) μ := by
    have q := boxes_ok (gk_of bdB (by decide)) μ hc (ρ := rhL ns A (some (.d (insG (notG (szG [bB]))))) (some (.d (.lst L))) none) (i := 2) rfl
    rw [duB, hL] at q
    exact q
  obtain ⟨ln, rp⟩ := told_len (m := 2) bdB (by decide) (congrArg List.length duB) μ hc
  have hln := lenOwn_eq (n := 2) (x := .d (insG (notG (szG [bB])))) rfl ln (by decide)
  have hrp : reprOwnG 23 g_Sizes_repr (.d (insG (notG (szG [bB])))) μ = .ok (.d (.str (reprS 2))) μ := by
    refine WE.eq ?_
    rw [we_reprOwn, rp]
    exact ⟨rfl, _, rfl, rfl, rfl⟩
  rw [show reprS 2 = [83, 105, 122, 101, 115, 40, 50, 32, 98, 111, 120, 101, 115, 41] by decide +kernel] at hrp
  rw [st_iff (tOr_ff (tB_ok (e2_ok (e1_ok hbB rB) (e1_ok (eV_ok (x := .d (.lst L)) rfl) rB) (ne_str _ (shal_repr sB) μ)))
    (tOr_ff (tB_ok (e2_ok (e1_ok (eV_ok (x := .d (insG (notG (szG [bB])))) rfl) hln) eK_ok (ne_int 2 μ)))
      (tB_ok (e2_ok (e1_ok (eV_ok (x := .d (insG (notG (szG [bB])))) rfl) hrp) eK_ok (ne_str _ (by decide) μ)))))]
  generalize hB : some (DV.d (insG (notG (szG [bB])))) = B
  generalize hC : some (DV.d (Dat.lst L)) = C
  rw [ws_seq, ws_ret]
  simp
  refine we_lcG (fun i : Nat => .int i) (fun y => y = .bl true) (List.range (max 2 (min ns.length 5))) (lim1000' (by rw [List.length_range]; omega)) ?_ fun k hk M hM => ?_
  · simp [lenN]
    refine ⟨_, rng_five ns.length, rfl, hc, fun ys hy1 hy2 => ?_⟩
    rw [List.eq_replicate_iff.mpr ⟨rfl, hy2⟩]
    simp [seqs, bls_rep, finV]
  · have hk5 : k ≤ 1000 := by
      have := List.mem_range.mp hk
      omega
    obtain ⟨i, e1⟩ := cell_eq ns k hk5 M
    obtain ⟨a, b, e2, q⟩ := pool_eq i M
    have hp : Pool (M ++ [plD a b 0]) M.length := ⟨a, b, 0, by simp, q⟩
    obtain ⟨μ', e3, s3⟩ := right_eq M.length (M ++ [plD a b 0]) hp (hM.app _)
    obtain ⟨_, a2, b2, c2, e4, _⟩ := s3
    simp [wipeR, e1, e2, e3]
    refine ⟨[plD a2 b2 c2], by rw [e4]; simp, by simp [plD, flatC]⟩
theorem law_q (ns : List Int) (hl : ns.length ≤ 63) (μ : List Cel) (hc : Clo μ) : ∃ μ', g_law [.d (.fl (ns.map .int))] μ = .ok (.d (.bl true)) μ' := by
  obtain ⟨v, μ', e, rfl⟩ := (law_key ns hl μ hc).ex
  exact ⟨μ', e⟩
theorem law_eq (ns : List Int) (hl : ns.length ≤ 63) : ∃ μ, g_law [.d (.fl (ns.map .int))] [] = .ok (.d (.bl true)) μ := law_q ns hl [] clo_nil
end DL.K05
set_option Elab.async false
set_option linter.all false
set_option maxRecDepth 100000
set_option maxHeartbeats 0
open PySem PySem.W PySem.Calls PyProof.Rows
theorem PySem.Challenge.cw_streamscreens_k05_boxes_of_sizes_holds : PySem.Challenge.rw_streamscreens_k05_boxes_of_sizes.Holds := by
  w_on; o_law
  refine HandSHeadRun.head_any (r := OpenLaw.row PySem.Challenge.rw_streamscreens_k05_boxes_of_sizes) (q := view (OpenLaw.row PySem.Challenge.rw_streamscreens_k05_boxes_of_sizes).prog [31]) (H := DL.K05.hk) (ob := DL.K05.ob) (M := 6000) (loose := DL.K05.nms) (d := HandSHeadRun.topDef (OpenLaw.row PySem.Challenge.rw_streamscreens_k05_boxes_of_sizes).prog 31) (kwd := []) DL.K05.ob_eq
    (by kernel_rfl) (fun s => by kernel_rfl) DL.K05.run (by kernel_rfl) (by kernel_rfl) (by kernel_rfl) (by rfl) (by first | assumption | decide +kernel) (by decide +kernel) ⟨rfl, rfl, rfl, rfl, rfl, by decide +kernel⟩ ?hw ?hc
  case hw => w_witness2
  case hc =>
    refine DL.walk_dl (l := PySem.Challenge.rw_streamscreens_k05_boxes_of_sizes) (n := 63) (k := 9) rfl (by decide) (by kernel_rfl) ⟨rfl, by decide, by decide⟩ ?F
    intro w mg fa h Y G hmg0
    obtain ⟨K, KX, c⟩ := Y
    have hmg : mg ("law" : PySem.Str) = some (.ref fa) := by
      have e : (HandSHeadRun.topDef (OpenLaw.row PySem.Challenge.rw_streamscreens_k05_boxes_of_sizes).prog 31).name = ("law" : PySem.Str) := by kernel_rfl
      rw [← e]
      exact hmg0
    have F : DL.K05.Fx K mg := DL.K05.facts KX G c
    have e : fa = DL.K05.d_law.ad K := by
      have z := F.g_law
      rw [hmg] at z
      cases z
      rfl
    subst e
    exact ⟨K, DL.K05.g_law, KX, fun base hk hn => DL.K05.c_law F, fun ns hl => DL.K05.law_eq ns hl⟩
