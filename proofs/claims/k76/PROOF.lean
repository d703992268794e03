import PyProof.Rows.All
import Wide.All
import OpenK.AllK
import Wide.FinOn
import HandS.ForMost
import HandS.ForExc
import HandS.HeadHook1
import HandS.Defaults
import HandS.HeadHook2
import HandS.HeadHook4
import HandS.Walk
import HandS.Zip
import KE.GoesEnum
import HandS.TupMul
import HandS.Wide
import HandS.TupAny
import HandS.Deep
import HandS.Text
import HandS.IsInst
import HandS.Conv
import HandS.Dict
import HandS.DictTup
import HandS.TupLen
import HandS.SetFor
import HandS.TupSets
import HandS.RaiseMore
import PyProof.ReprRoads
import HandS.Style
import KE.KExcInit
import HandS.ExcInit
import HandS.ExcField
import KE.KExcIs
import HandS.ExcIs
import HandS.Ends
import HandS.Head0
import HandS.Head1
import HandS.Head2
import HandS.HeadEnd
import PySem.Challenge.RW_settledhands_k76_whole_courses
import PyProof.ReprLen
set_option Elab.async false
set_option linter.all false
set_option maxRecDepth 100000
/-! DLa: data D, what stands for it (Rep), the state of a body (slots Gm, own objects, the store), the meanings of expressions and statements as functions, and how HandS's readings follow from them. -/
namespace DL
open PySem L2

/-! ### data -/
inductive D where
  | non
  | bl (b : Bool)
  | int (i : Int)
  | str (s : PySem.Str)
  | tup (ds : List D)
  | lst (ds : List D)
  /-- a list that is only read: the script, a module's own -/
  | kst (ds : List D)
  | loc (n : Nat)
  | raw (v : V)

mutual
/-- v stands for d: tuples and lists in the frozen heap Hf, store objects by μ -/
def Rep (K : PySem.W.Frag) (μ : List Addr) (Hf : Hp) : D → V → Prop
  | .non, v => v = V.non
  | .bl b, v => v = V.bl b
  | .int i, v => v = V.int i
  | .str s, v => v = V.str s
  | .tup ds, v => ∃ a xs, v = V.ref a ∧ Hf a = some (.tup xs) ∧ xs.length ≤ sizeLine ∧ RepL K μ Hf ds xs
  | .lst ds, v => ∃ a xs, v = V.ref a ∧ Hf a = some (.lst xs) ∧ xs.length ≤ sizeLine ∧ RepL K μ Hf ds xs
  | .kst ds, v => ∃ a xs, v = V.ref a ∧ SqL K Hf a xs ∧ xs.length ≤ sizeLine ∧ RepL K μ Hf ds xs
  | .loc n, v => ∃ a, v = V.ref a ∧ μ[n]? = some a
  | .raw w, v => v = w
def RepL (K : PySem.W.Frag) (μ : List Addr) (Hf : Hp) : List D → List V → Prop
  | [], xs => xs = []
  | d :: ds, xs => ∃ x r, xs = x :: r ∧ Rep K μ Hf d x ∧ RepL K μ Hf ds r
end

def Sub (A B : Hp) : Prop := ∀ a o, A a = some o → B a = some o
theorem Sub.refl (A : Hp) : Sub A A := fun _ _ h => h
theorem Sub.trans {A B C : Hp} (h : Sub A B) (k : Sub B C) : Sub A C := fun a o e => k a o (h a o e)
theorem Sub.rd {A B : Hp} (h : Sub A B) {a : Addr} {u : HO} (r : Rd A a u) : Rd B a u := by
  rcases r with r | ⟨o, r⟩
  · exact .inl (h _ _ r)
  · exact .inr ⟨o, h _ _ r⟩
theorem Sub.sl {K : PySem.W.Frag} {A B : Hp} (h : Sub A B) {a : Addr} {xs : List V} (r : SqL K A a xs) : SqL K B a xs := by
  rcases r with r | r
  · exact .inl (h.rd r)
  · exact .inr r
theorem Sub.tp {K : PySem.W.Frag} {A B : Hp} (h : Sub A B) {a : Addr} {xs : List V} (r : A a = some (.tup xs)) : SqT K B a xs := SqT.of (h _ _ r)
theorem Sub.st {K : PySem.W.Frag} {A B : Hp} (h : Sub A B) {a : Addr} {xs : List V} (r : SqT K A a xs) : SqT K B a xs := by
  rcases r with r | r
  · exact .inl (h.rd r)
  · exact .inr r
/-- the prefix order of store addresses -/
def Pre (μ ν : List Addr) : Prop := ∀ (n : Nat) (a : Addr), μ[n]? = some a → ν[n]? = some a
theorem Pre.refl (μ : List Addr) : Pre μ μ := fun _ _ h => h
theorem Pre.trans {a b c : List Addr} (h : Pre a b) (k : Pre b c) : Pre a c := fun n x e => k n x (h n x e)
theorem Pre.mem {a b : List Addr} (h : Pre a b) {x : Addr} (m : x ∈ a) : x ∈ b := by
  obtain ⟨n, e⟩ := List.mem_iff_getElem?.mp m
  exact List.mem_of_getElem? (h n x e)

section
variable {K : PySem.W.Frag} {μ ν : List Addr} {A B : Hp}
mutual
theorem Rep.mono (hs : Sub A B) (hp : Pre μ ν) : ∀ (d : D) (v : V), Rep K μ A d v → Rep K ν B d v
  | .non, v, h => by simpa only [Rep] using h
  | .bl _, v, h => by simpa only [Rep] using h
  | .int _, v, h => by simpa only [Rep] using h
  | .str _, v, h => by simpa only [Rep] using h
  | .raw _, v, h => by simpa only [Rep] using h
  | .loc n, v, h => by
    simp only [Rep] at h ⊢
    obtain ⟨a, e, q⟩ := h
    exact ⟨a, e, hp n a q⟩
  | .tup ds, v, h => by
    simp only [Rep] at h ⊢
    obtain ⟨a, xs, e, q, z, r⟩ := h
    exact ⟨a, xs, e, hs _ _ q, z, RepL.mono hs hp ds xs r⟩
  | .lst ds, v, h => by
    simp only [Rep] at h ⊢
    obtain ⟨a, xs, e, q, z, r⟩ := h
    exact ⟨a, xs, e, hs _ _ q, z, RepL.mono hs hp ds xs r⟩
  | .kst ds, v, h => by
    simp only [Rep] at h ⊢
    obtain ⟨a, xs, e, q, z, r⟩ := h
    exact ⟨a, xs, e, hs.sl q, z, RepL.mono hs hp ds xs r⟩
theorem RepL.mono (hs : Sub A B) (hp : Pre μ ν) : ∀ (ds : List D) (xs : List V), RepL K μ A ds xs → RepL K ν B ds xs
  | [], xs, h => by simpa only [RepL] using h
  | d :: ds, xs, h => by
    simp only [RepL] at h ⊢
    obtain ⟨x, r, e, q, k⟩ := h
    exact ⟨x, r, e, Rep.mono hs hp d x q, RepL.mono hs hp ds r k⟩
end
theorem RepL.length : ∀ {ds : List D} {xs : List V}, RepL K μ A ds xs → xs.length = ds.length
  | [], xs, h => by simp only [RepL] at h; rw [h]; rfl
  | d :: ds, xs, h => by
    simp only [RepL] at h
    obtain ⟨x, r, rfl, _, k⟩ := h
    simp [RepL.length k]
theorem RepL.nil : RepL K μ A [] [] := by simp only [RepL]
theorem RepL.cons {d : D} {ds : List D} {x : V} {xs : List V} (h : Rep K μ A d x) (k : RepL K μ A ds xs) : RepL K μ A (d :: ds) (x :: xs) := by
  simp only [RepL]
  exact ⟨x, xs, rfl, h, k⟩
theorem RepL.append : ∀ {ds es : List D} {xs ys : List V}, RepL K μ A ds xs → RepL K μ A es ys → RepL K μ A (ds ++ es) (xs ++ ys)
  | [], es, xs, ys, h, k => by simp only [RepL] at h; subst h; exact k
  | d :: ds, es, xs, ys, h, k => by
    simp only [RepL] at h
    obtain ⟨x, r, rfl, q, h⟩ := h
    exact RepL.cons q (RepL.append h k)
theorem RepL.get : ∀ {ds : List D} {xs : List V} {i : Nat} {d : D}, RepL K μ A ds xs → ds[i]? = some d → ∃ x, xs[i]? = some x ∧ Rep K μ A d x
  | [], _, _, _, _, e => by simp at e
  | c :: ds, xs, i, d, h, e => by
    simp only [RepL] at h
    obtain ⟨x, r, rfl, q, h⟩ := h
    cases i with
    | zero => simp at e; subst e; exact ⟨x, rfl, q⟩
    | succ i =>
      obtain ⟨y, h1, h2⟩ := RepL.get (i := i) h (by simpa using e)
      exact ⟨y, by simpa using h1, h2⟩
theorem RepL.getV : ∀ {ds : List D} {xs : List V} {i : Nat} {x : V}, RepL K μ A ds xs → xs[i]? = some x → ∃ d, ds[i]? = some d ∧ Rep K μ A d x
  | [], _, _, _, h, e => by simp only [RepL] at h; subst h; simp at e
  | c :: ds, xs, i, x, h, e => by
    simp only [RepL] at h
    obtain ⟨y, r, rfl, q, h⟩ := h
    cases i with
    | zero => simp at e; subst e; exact ⟨c, rfl, q⟩
    | succ i =>
      obtain ⟨d, h1, h2⟩ := RepL.getV (i := i) h (by simpa using e)
      exact ⟨d, by simpa using h1, h2⟩
theorem RepL.take : ∀ (n : Nat) {ds : List D} {xs : List V}, RepL K μ A ds xs → RepL K μ A (ds.take n) (xs.take n)
  | 0, _, _, _ => by simp [RepL.nil]
  | n + 1, [], xs, h => by simp only [RepL] at h; subst h; simp [RepL.nil]
  | n + 1, d :: ds, xs, h => by
    simp only [RepL] at h
    obtain ⟨x, r, rfl, q, h⟩ := h
    exact RepL.cons q (RepL.take n h)
theorem RepL.drop : ∀ (n : Nat) {ds : List D} {xs : List V}, RepL K μ A ds xs → RepL K μ A (ds.drop n) (xs.drop n)
  | 0, _, _, h => h
  | n + 1, [], xs, h => by simp only [RepL] at h; subst h; simp [RepL.nil]
  | n + 1, d :: ds, xs, h => by
    simp only [RepL] at h
    obtain ⟨x, r, rfl, q, h⟩ := h
    exact RepL.drop n h
theorem RepL.set : ∀ (n : Nat) {ds : List D} {xs : List V} {d : D} {x : V}, RepL K μ A ds xs → Rep K μ A d x → RepL K μ A (ds.set n d) (xs.set n x)
  | _, [], xs, _, _, h, _ => by simp only [RepL] at h; subst h; simp [RepL.nil]
  | 0, c :: ds, xs, d, x, h, k => by
    simp only [RepL] at h
    obtain ⟨y, r, rfl, q, h⟩ := h
    exact RepL.cons k h
  | n + 1, c :: ds, xs, d, x, h, k => by
    simp only [RepL] at h
    obtain ⟨y, r, rfl, q, h⟩ := h
    exact RepL.cons q (RepL.set n h k)
end

/-! ### objects that may change: a body's own, the store's -/
/-- keys of dicts -/
def keyOf : D → Option Key
  | .int i => some (.inl i)
  | .str s => some (.inr s)
  | _ => none
def keysOf : List D → Option (List Key)
  | [] => some []
  | d :: ds => match keyOf d, keysOf ds with
    | some k, some ks => some (k :: ks)
    | _, _ => none
inductive SO where
  | lst (ds : List D)
  /-- a dict by tuples of ints and texts; by ints and texts -/
  | dT (kvs : List (List Key × D))
  | dK (kvs : List (Key × D))
def KRep {κ : Type} (K : PySem.W.Frag) (μ : List Addr) (Hf : Hp) : List (κ × D) → List (κ × V) → Prop
  | [], xs => xs = []
  | (k, d) :: ds, xs => ∃ x r, xs = (k, x) :: r ∧ Rep K μ Hf d x ∧ KRep K μ Hf ds r
def ORep (K : PySem.W.Frag) (μ : List Addr) (Hf : Hp) : SO → HO → Prop
  | .lst ds, o => ∃ xs, o = .lst xs ∧ xs.length ≤ sizeLine ∧ RepL K μ Hf ds xs
  | .dT ks, o => ∃ xs, o = .dT xs ∧ KRep K μ Hf ks xs
  | .dK ks, o => ∃ xs, o = .dK xs ∧ KRep K μ Hf ks xs
section
variable {K : PySem.W.Frag} {μ ν : List Addr} {A B : Hp}
theorem KRep.mono {κ : Type} (hs : Sub A B) (hp : Pre μ ν) : ∀ {ks : List (κ × D)} {xs : List (κ × V)}, KRep K μ A ks xs → KRep K ν B ks xs
  | [], xs, h => h
  | (k, d) :: ks, xs, h => by
    obtain ⟨x, r, e, q, h⟩ := h
    exact ⟨x, r, e, Rep.mono hs hp d x q, KRep.mono hs hp h⟩
theorem ORep.mono (hs : Sub A B) (hp : Pre μ ν) : ∀ {o : SO} {u : HO}, ORep K μ A o u → ORep K ν B o u
  | .lst ds, u, h => by
    obtain ⟨xs, e, z, q⟩ := h
    exact ⟨xs, e, z, RepL.mono hs hp ds xs q⟩
  | .dT ks, u, h => by
    obtain ⟨xs, e, q⟩ := h
    exact ⟨xs, e, KRep.mono hs hp q⟩
  | .dK ks, u, h => by
    obtain ⟨xs, e, q⟩ := h
    exact ⟨xs, e, KRep.mono hs hp q⟩
end

abbrev Store := List SO
/-- a slot: a value, or the address of an object that nobody else knows -/
inductive Sl where
  | val (d : D)
  | own (o : SO)
abbrev Gm := List (Option Sl)

structure SlOk (K : PySem.W.Frag) (Γ : Gm) (σ : L2.St) (H Hf : Hp) (μ : List Addr) : Prop where
  len : Γ.length = σ.length
  val : ∀ (i : Nat) (d : D), Γ[i]? = some (some (.val d)) → ∃ v, σ[i]? = some (some v) ∧ Rep K μ Hf d v
  own : ∀ (i : Nat) (o : SO), Γ[i]? = some (some (.own o)) → ∃ p u, σ[i]? = some (some (V.ref p)) ∧ H p = some u ∧ ORep K μ Hf o u ∧ Hf p = none ∧ p ∉ μ
  apart : ∀ (i j : Nat) (o o' : SO) (p : Addr), Γ[i]? = some (some (.own o)) → Γ[j]? = some (some (.own o')) → σ[i]? = some (some (V.ref p)) → σ[j]? = some (some (V.ref p)) → i = j
structure StoOk (K : PySem.W.Frag) (S : Store) (H Hf : Hp) (μ : List Addr) : Prop where
  sub : Sub Hf H
  len : μ.length = S.length
  nd : μ.Nodup
  ob : ∀ (n : Nat) (o : SO) (a : Addr), S[n]? = some o → μ[n]? = some a → ∃ u, H a = some u ∧ ORep K μ Hf o u
  fz : ∀ a ∈ μ, Hf a = none
/-- from one state to a later one -/
structure Step (H Hf : Hp) (μ : List Addr) (H' Hf' : Hp) (μ' : List Addr) : Prop where
  fr : ∀ a o, H a = some o → a ∉ μ → H' a = some o
  fz : Sub Hf Hf'
  nf : ∀ a, Hf a = none → H a ≠ none → Hf' a = none
  mu : Pre μ μ'
  nm : ∀ a ∈ μ', a ∈ μ ∨ H a = none
  th : ∀ a, H a ≠ none → H' a ≠ none
section
variable {K : PySem.W.Frag} {Γ : Gm} {σ : L2.St} {S S' : Store} {H Hf H' Hf' H2 Hf2 : Hp} {μ μ' μ2 : List Addr}
theorem Step.refl (H Hf : Hp) (μ : List Addr) : Step H Hf μ H Hf μ := ⟨fun _ _ h _ => h, Sub.refl _, fun _ h _ => h, Pre.refl _, fun _ h => .inl h, fun _ h => h⟩
theorem Step.trans (a : Step H Hf μ H' Hf' μ') (b : Step H' Hf' μ' H2 Hf2 μ2) : Step H Hf μ H2 Hf2 μ2 where
  fr := fun x o h n => b.fr x o (a.fr x o h n) fun m => by
    rcases a.nm x m with k | k
    · exact n k
    · rw [k] at h; cases h
  fz := a.fz.trans b.fz
  nf := fun x h n => b.nf x (a.nf x h n) (a.th x n)
  mu := a.mu.trans b.mu
  nm := fun x m => by
    rcases b.nm x m with k | k
    · exact a.nm x k
    · by_cases z : H x = none
      · exact .inr z
      · exact absurd k (a.th x z)
  th := fun x h => b.th x (a.th x h)
theorem SlOk.step (h : SlOk K Γ σ H Hf μ) (s : Step H Hf μ H' Hf' μ') : SlOk K Γ σ H' Hf' μ' where
  len := h.len
  val := fun i d e => by
    obtain ⟨v, e1, r⟩ := h.val i d e
    exact ⟨v, e1, Rep.mono s.fz s.mu d v r⟩
  own := fun i o e => by
    obtain ⟨p, u, e1, e2, r, n, m⟩ := h.own i o e
    refine ⟨p, u, e1, s.fr p u e2 m, r.mono s.fz s.mu, s.nf p n (by rw [e2]; exact fun z => nomatch z), fun z => ?_⟩
    rcases s.nm p z with k | k
    · exact m k
    · rw [k] at e2; cases e2
  apart := h.apart
theorem Step.rep (s : Step H Hf μ H' Hf' μ') {d : D} {v : V} (r : Rep K μ Hf d v) : Rep K μ' Hf' d v := Rep.mono s.fz s.mu d v r
theorem Step.repL (s : Step H Hf μ H' Hf' μ') {d : List D} {v : List V} (r : RepL K μ Hf d v) : RepL K μ' Hf' d v := RepL.mono s.fz s.mu d v r
end

/-! ### meanings -/
inductive RE (α : Type) where
  | ok (a : α) (S : Store)
  | ex (C : PySem.Str) (fs : List (PySem.Str × D)) (S : Store)
  | no
def RE.bind {α β : Type} (x : RE α) (f : α → Store → RE β) : RE β := match x with
  | .ok a S => f a S
  | .ex C fs S => .ex C fs S
  | .no => .no
@[simp] theorem RE.bind_ok {α β : Type} (a : α) (S : Store) (f : α → Store → RE β) : (RE.ok a S).bind f = f a S := rfl
@[simp] theorem RE.bind_ex {α β : Type} (C : PySem.Str) (fs : List (PySem.Str × D)) (S : Store) (f : α → Store → RE β) : (RE.ex C fs S : RE α).bind f = .ex C fs S := rfl
@[simp] theorem RE.bind_no {α β : Type} (f : α → Store → RE β) : (RE.no : RE α).bind f = .no := rfl
abbrev Ev (α : Type) := Gm → Store → RE α

/-- fields of an exception -/
def FRep (K : PySem.W.Frag) (μ : List Addr) (Hf : Hp) (fs : List (PySem.Str × D)) (fv : List (PySem.Str × V)) : Prop := KRep K μ Hf fs fv
/-- the relation of a result: at entry H, at the end (H', Hf', μ') -/
abbrev RR (α β : Type) := Hp → Hp → Hp → List Addr → α → β → Prop
def RMono {α β : Type} (R : RR α β) : Prop := ∀ H H1 H' Hf' μ' a b, (∀ x, H x ≠ none → H1 x ≠ none) → R H1 H' Hf' μ' a b → R H H' Hf' μ' a b
/-- what is asked of what f has told, at the state (H, Hf, μ) ahead of it -/
def Out {α β : Type} (K : PySem.W.Frag) (R : RR α β) (W : WX) (σ : L2.St) (H Hf : Hp) (μ : List Addr) (r : RE α) (Q : β → Hp → Prop) : Prop := match r with
  | .ok d S' => ∀ v H' Hf' μ', Step H Hf μ H' Hf' μ' → StoOk K S' H' Hf' μ' → R H H' Hf' μ' d v → Q v H'
  | .ex C fs S' => ∀ dd fv H' Hf' μ', Step H Hf μ H' Hf' μ' → StoOk K S' H' Hf' μ' → Hf' dd = some (.xd fv) → FRep K μ' Hf' fs fv → W (.ref (He.ga K C)) (some dd) σ H'
  | .no => False
section
variable {α β γ δ : Type} {K : PySem.W.Frag} {R : RR α β} {R' : RR γ δ} {W : WX} {Γ : Gm} {σ : L2.St} {S S1 : Store} {H Hf H1 Hf1 : Hp} {μ μ1 : List Addr}
theorem Out.later (hm : RMono R) {r : RE α} {Q : β → Hp → Prop} (s : Step H Hf μ H1 Hf1 μ1) (o : Out K R W σ H Hf μ r Q) : Out K R W σ H1 Hf1 μ1 r Q := by
  cases r with
  | ok d S' => exact fun v H' Hf' μ' k so re => o v H' Hf' μ' (s.trans k) so (hm _ _ _ _ _ _ _ s.th re)
  | ex C fs S' => exact fun dd fv H' Hf' μ' k => o dd fv H' Hf' μ' (s.trans k)
  | no => exact o
theorem Out.bind {r : RE α} {k : α → Store → RE γ} {Q : δ → Hp → Prop} {Q1 : β → Hp → Prop} (sl : SlOk K Γ σ H Hf μ) (hm : RMono R') (o : Out K R' W σ H Hf μ (r.bind k) Q)
    (h : ∀ d S1 v H1 Hf1 μ1, r = .ok d S1 → Step H Hf μ H1 Hf1 μ1 → SlOk K Γ σ H1 Hf1 μ1 → StoOk K S1 H1 Hf1 μ1 → R H H1 Hf1 μ1 d v → Out K R' W σ H1 Hf1 μ1 (k d S1) Q → Q1 v H1) : Out K R W σ H Hf μ r Q1 := by
  cases r with
  | ok d S' => exact fun v H' Hf' μ' st so re => h d S' v H' Hf' μ' rfl st (sl.step st) so re (Out.later hm st o)
  | ex C fs S' => exact o
  | no => exact o
end
abbrev RepR (K : PySem.W.Frag) : RR D V := fun _ _ Hf μ d v => Rep K μ Hf d v
abbrev RepLR (K : PySem.W.Frag) : RR (List D) (List V) := fun _ _ Hf μ d v => RepL K μ Hf d v
abbrev EqR (α : Type) : RR α α := fun _ _ _ _ a b => a = b
/-- a new object that nobody else knows -/
def NewR (K : PySem.W.Frag) : RR SO V := fun H H' Hf' μ' o v => ∃ p u, v = V.ref p ∧ H p = none ∧ H' p = some u ∧ ORep K μ' Hf' o u ∧ Hf' p = none ∧ p ∉ μ'
theorem rm_rep {K : PySem.W.Frag} : RMono (RepR K) := fun _ _ _ _ _ _ _ _ h => h
theorem rm_repL {K : PySem.W.Frag} : RMono (RepLR K) := fun _ _ _ _ _ _ _ _ h => h
theorem rm_eq {α : Type} : RMono (EqR α) := fun _ _ _ _ _ _ _ _ h => h
theorem rm_new {K : PySem.W.Frag} : RMono (NewR K) := fun H H1 _ _ _ _ _ t ⟨p, u, e, n, q⟩ => ⟨p, u, e, Classical.byContradiction fun z => t p z n, q⟩
/-- a value that is used at once: told, or a slot's own -/
def BorR (K : PySem.W.Frag) (σ : L2.St) (Γ : Gm) : RR D V := fun _ _ Hf μ d v =>
  Rep K μ Hf d v ∨ ∃ (i : Nat) (ds : List D), Γ[i]? = some (some (.own (.lst ds))) ∧ σ[i]? = some (some v) ∧ d = .lst ds
theorem rm_bor {K : PySem.W.Frag} {σ : L2.St} {Γ : Gm} : RMono (BorR K σ Γ) := fun _ _ _ _ _ _ _ _ h => h

/-- the readings that follow from meanings -/
def tE (K : PySem.W.Frag) (W : WX) (f : Ev D) : TE := fun σ H Q => ∃ Γ S Hf μ, SlOk K Γ σ H Hf μ ∧ StoOk K S H Hf μ ∧ Out K (RepR K) W σ H Hf μ (f Γ S) Q
def tN (K : PySem.W.Frag) (W : WX) (f : Ev SO) : TE := fun σ H Q => ∃ Γ S Hf μ, SlOk K Γ σ H Hf μ ∧ StoOk K S H Hf μ ∧ Out K (NewR K) W σ H Hf μ (f Γ S) Q
def tBo (K : PySem.W.Frag) (W : WX) (f : Ev D) : TE := fun σ H Q => ∃ Γ S Hf μ, SlOk K Γ σ H Hf μ ∧ StoOk K S H Hf μ ∧ Out K (BorR K σ Γ) W σ H Hf μ (f Γ S) Q
def tA (K : PySem.W.Frag) (W : WX) (f : Ev (List D)) : TA := fun σ H Q => ∃ Γ S Hf μ, SlOk K Γ σ H Hf μ ∧ StoOk K S H Hf μ ∧ Out K (RepLR K) W σ H Hf μ (f Γ S) Q
def tT (K : PySem.W.Frag) (W : WX) (f : Ev Bool) : TT := fun σ H Q => ∃ Γ S Hf μ, SlOk K Γ σ H Hf μ ∧ StoOk K S H Hf μ ∧ Out K (EqR Bool) W σ H Hf μ (f Γ S) Q

theorem PE_imp {X : Cx} {e : Expr} {t t' : TE} (h : PE X e t) (k : ∀ σ H Q, t' σ H Q → t σ H Q) : PE X e t' := ⟨fun pins s σ H Q I hq => h.run pins s σ H Q I (k σ H Q hq)⟩
theorem PT_imp {X : Cx} {e : Expr} {t t' : TT} (h : PT X e t) (k : ∀ σ H Q, t' σ H Q → t σ H Q) : PT X e t' := ⟨fun pins s σ H Q I hq => h.run pins s σ H Q I (k σ H Q hq)⟩
theorem PA_imp {X : Cx} {e : List Expr} {t t' : TA} (h : PA X e t) (k : ∀ σ H Q, t' σ H Q → t σ H Q) : PA X e t' := ⟨fun pos pins s σ H Q I hq => h.run pos pins s σ H Q I (k σ H Q hq)⟩
theorem PS_imp {X : Cx} {e : Stmt} {t t' : TS} (h : PS X e t) (k : ∀ D σ H, t' D σ H → t D σ H) : PS X e t' := ⟨fun pins s σ H D I hq => h.run pins s σ H D I (k D σ H hq)⟩
theorem PSs_imp {X : Cx} {e : List Stmt} {t t' : TS} (h : PSs X e t) (k : ∀ D σ H, t' D σ H → t D σ H) : PSs X e t' := ⟨fun pins s σ H D I hq => h.run pins s σ H D I (k D σ H hq)⟩

/-- an expression's meaning -/
abbrev DE (X : Cx) (W : WX) (e : Expr) (f : Ev D) : Prop := PE X e (tE X.K W f)
abbrev DN (X : Cx) (W : WX) (e : Expr) (f : Ev SO) : Prop := PE X e (tN X.K W f)
abbrev DB (X : Cx) (W : WX) (e : Expr) (f : Ev D) : Prop := PE X e (tBo X.K W f)
abbrev DA (X : Cx) (W : WX) (es : List Expr) (f : Ev (List D)) : Prop := PA X es (tA X.K W f)
abbrev DT (X : Cx) (W : WX) (e : Expr) (f : Ev Bool) : Prop := PT X e (tT X.K W f)

/-! ### names, constants -/
def eC (d : D) : Ev D := fun _ S => .ok d S
def eV (i : Nat) : Ev D := fun Γ S => match Γ[i]? with
  | some (some (.val d)) => .ok d S
  | _ => .no
section
variable {X : Cx} {W : WX}
theorem tE_c {K : PySem.W.Frag} {d : D} {v : V} (h : ∀ μ Hf, Rep K μ Hf d v) {σ : L2.St} {H : Hp} {Q : VK} (q : tE K W (eC d) σ H Q) : tC v σ H Q := by
  obtain ⟨Γ, S, Hf, μ, sl, so, o⟩ := q
  exact o v H Hf μ (Step.refl _ _ _) so (h _ _)
theorem de_int {i : Int} {j pos} : DE X W (.Constant (.int i) j pos) (eC (.int i)) := PE_imp pe_int fun _ _ _ => tE_c fun _ _ => by simp only [Rep]
theorem de_bl {b : Bool} {j pos} : DE X W (.Constant (.bool b) j pos) (eC (.bl b)) := PE_imp pe_bl fun _ _ _ => tE_c fun _ _ => by simp only [Rep]
theorem de_non {j pos} : DE X W (.Constant .none j pos) (eC .non) := PE_imp pe_non fun _ _ _ => tE_c fun _ _ => by simp only [Rep]
theorem de_str {x} {j pos} : DE X W (.Constant (.str x) j pos) (eC (.str x)) := PE_imp pe_str fun _ _ _ => tE_c fun _ _ => by simp only [Rep]
theorem de_glob {x : PySem.Str} {d : D} {v : V} {u : Value} {pos : Pos} (hg : Gl X x) (hm : X.mg x = some u) (r : RelV v u) (hr : ∀ μ Hf, Rep X.K μ Hf d v) (hd : (x == ("__debug__" : PySem.Str)) = false := by decide) : DE X W (.Name x pos) (eC d) :=
  PE_imp (pe_glob hg hm r hd) fun _ _ _ => tE_c hr
theorem de_v (i : Nat) {x : PySem.Str} {pos : Pos} (hN : X.N[i]? = some x := by rfl) (hv : Vis X.env.scope x := by first | exact Or.inl rfl | exact Or.inr (Or.inl rfl) | exact Or.inr (Or.inr rfl)) (hd : (x == ("__debug__" : PySem.Str)) = false := by decide)
    (hcd : (x == ("__classdict__" : PySem.Str)) = false := by decide) : DE X W (.Name x pos) (eV i) := by
  refine PE_imp (pe_var (i := i) hN hv hd hcd) fun σ H Q ⟨Γ, S, Hf, μ, sl, so, o⟩ => ?_
  unfold eV at o
  cases e : Γ[i]? with
  | none => rw [e] at o; exact o.elim
  | some s =>
    cases s with
    | none => rw [e] at o; exact o.elim
    | some s =>
      cases s with
      | own u => rw [e] at o; exact o.elim
      | val d =>
        rw [e] at o
        obtain ⟨v, e1, r⟩ := sl.val i d e
        exact ⟨v, e1, o v H Hf μ (Step.refl _ _ _) so r⟩
end

/-! ### two expressions, an operation on data -/
def eBin (op : D → D → Option D) (a b : Ev D) : Ev D := fun Γ S => (a Γ S).bind fun x S1 => (b Γ S1).bind fun y S2 => match op x y with
  | some z => .ok z S2
  | none => .no
/-- an operation that makes no new object, by HandS's rule -/
def OpD (K : PySem.W.Frag) (r : R2) (op : D → D → Option D) : Prop := ∀ (S : Store) (H Hf : Hp) (μ : List Addr) (x y : V) (a b c : D) (Q : VK), StoOk K S H Hf μ → Rep K μ Hf a x → Rep K μ Hf b y → op a b = some c →
  (∀ v H' Hf' μ', Step H Hf μ H' Hf' μ' → StoOk K S H' Hf' μ' → Rep K μ' Hf' c v → Q v H') → r x y H Q
section
variable {X : Cx} {W : WX} {a b : Expr} {fa fb : Ev D} {pos : Pos} {r : R2} {op : D → D → Option D}
theorem tE_bin {K : PySem.W.Frag} (hop : OpD K r op) {σ : L2.St} {H : Hp} {Q : VK} (q : tE K W (eBin op fa fb) σ H Q) : tOp r (tE K W fa) (tE K W fb) σ H Q := by
  obtain ⟨Γ, S, Hf, μ, sl, so, o⟩ := q
  refine ⟨Γ, S, Hf, μ, sl, so, Out.bind sl rm_rep o fun x S1 v H1 Hf1 μ1 _ s1 sl1 so1 r1 o1 => ?_⟩
  refine ⟨Γ, S1, Hf1, μ1, sl1, so1, Out.bind sl1 rm_rep o1 fun y S2 u H2 Hf2 μ2 _ s2 sl2 so2 r2 o2 => ?_⟩
  cases e : op x y with
  | none => rw [e] at o2; exact o2.elim
  | some z =>
    rw [e] at o2
    exact hop S2 H2 Hf2 μ2 v u x y z Q so2 (s2.rep r1) r2 e o2
theorem de_op {o : Operator} (ho : OpR X (binaryOp o) r) (hop : OpD X.K r op) (ha : DE X W a fa) (hb : DE X W b fb) : DE X W (.BinOp a o b pos) (eBin op fa fb) :=
  PE_imp (pe_op ho ha hb) fun _ _ _ => tE_bin hop
theorem de_cmp {o : CmpOp} (ho : OpR X (compareOp o) r) (hop : OpD X.K r op) (ha : DE X W a fa) (hb : DE X W b fb) (hm : behindInMarks o b = false) : DE X W (.Compare a [o] [b] pos) (eBin op fa fb) :=
  PE_imp (pe_cmpR ho ha hb hm) fun _ _ _ => tE_bin hop
end
end DL
set_option Elab.async false
set_option linter.all false
set_option maxRecDepth 100000
/-! DLb: statements; tests; and, or, not; displays. -/
namespace DL
open PySem L2

/-! ### statements -/
/-- the entry of a body, and a floor: what is frozen stays so -/
structure Base where
  H : Hp
  Hf : Hp
  μ : List Addr
  fl : Hp := fun _ => none
  ml : List Addr := []
abbrev Base.at (B : Base) (fl : Hp) (ml : List Addr) : Base := ⟨B.H, B.Hf, B.μ, fl, ml⟩
inductive RS where
  | nx (Γ : Gm) (S : Store)
  | rt (d : D) (S : Store)
  | bk (Γ : Gm) (S : Store)
  | ct (Γ : Gm) (S : Store)
  | ex (C : PySem.Str) (fs : List (PySem.Str × D)) (Γ : Gm) (S : Store)
  | no
abbrev Es := Gm → Store → RS
/-- the state of a body whose entry was B -/
structure Rl (K : PySem.W.Frag) (B : Base) (Γ : Gm) (S : Store) (σ : L2.St) (H Hf : Hp) (μ : List Addr) : Prop where
  sl : SlOk K Γ σ H Hf μ
  so : StoOk K S H Hf μ
  st : Step B.H B.Hf B.μ H Hf μ
  own : ∀ (i : Nat) (o : SO) (p : Addr), Γ[i]? = some (some (.own o)) → σ[i]? = some (some (V.ref p)) → B.H p = none
  fz : Sub B.fl Hf
  pm : Pre B.ml μ
def SOut (K : PySem.W.Frag) (B : Base) (W : WX) (E : Ends) : RS → Prop
  | .nx Γ' S' => ∀ σ' H' Hf' μ', Rl K B Γ' S' σ' H' Hf' μ' → E.nx σ' H'
  | .rt d S' => ∀ v H' Hf' μ', Step B.H B.Hf B.μ H' Hf' μ' → StoOk K S' H' Hf' μ' → Rep K μ' Hf' d v → E.rt v H'
  | .bk Γ' S' => ∀ σ' H' Hf' μ', Rl K B Γ' S' σ' H' Hf' μ' → E.bk σ' H'
  | .ct Γ' S' => ∀ σ' H' Hf' μ', Rl K B Γ' S' σ' H' Hf' μ' → E.ct σ' H'
  | .ex C fs Γ' S' => ∀ dd fv σ' H' Hf' μ', Rl K B Γ' S' σ' H' Hf' μ' → Hf' dd = some (.xd fv) → FRep K μ' Hf' fs fv → W (.ref (He.ga K C)) (some dd) σ' H'
  | .no => False
def tS (K : PySem.W.Frag) (B : Base) (W : WX) (f : Es) : TS := fun E σ H => ∃ Γ S Hf μ, Rl K B Γ S σ H Hf μ ∧ SOut K B W E (f Γ S)
abbrev DS (X : Cx) (B : Base) (W : WX) (st : Stmt) (f : Es) : Prop := ∀ fl ml, PS X st (tS X.K (B.at fl ml) W f)
abbrev DSs (X : Cx) (B : Base) (W : WX) (st : List Stmt) (f : Es) : Prop := ∀ fl ml, PSs X st (tS X.K (B.at fl ml) W f)

section
variable {K : PySem.W.Frag} {B : Base} {Γ : Gm} {S S' : Store} {σ : L2.St} {H Hf H' Hf' : Hp} {μ μ' : List Addr} {W : WX}
theorem Rl.step (r : Rl K B Γ S σ H Hf μ) (s : Step H Hf μ H' Hf' μ') (so : StoOk K S' H' Hf' μ') : Rl K B Γ S' σ H' Hf' μ' :=
  ⟨r.sl.step s, so, r.st.trans s, r.own, r.fz.trans s.fz, r.pm.trans s.mu⟩
/-- a slot gets a value -/
theorem SlOk.setV (h : SlOk K Γ σ H Hf μ) (i : Nat) {d : D} {v : V} (r : Rep K μ Hf d v) : SlOk K (Γ.set i (some (.val d))) (σ.set i (some v)) H Hf μ where
  len := by simp [h.len]
  val := fun j c e => by
    by_cases hj : i = j
    · subst hj
      by_cases hl : i < Γ.length
      · rw [List.getElem?_set_self hl] at e
        cases e
        exact ⟨v, List.getElem?_set_self (by rw [← h.len]; exact hl), r⟩
      · rw [List.getElem?_eq_none (by rw [List.length_set]; omega)] at e
        cases e
    · rw [List.getElem?_set_ne hj] at e
      obtain ⟨u, e1, e2⟩ := h.val j c e
      exact ⟨u, by rw [List.getElem?_set_ne hj]; exact e1, e2⟩
  own := fun j o e => by
    by_cases hj : i = j
    · subst hj
      by_cases hl : i < Γ.length
      · rw [List.getElem?_set_self hl] at e
        cases e
      · rw [List.getElem?_eq_none (by rw [List.length_set]; omega)] at e
        cases e
    · rw [List.getElem?_set_ne hj] at e
      rw [List.getElem?_set_ne hj]
      exact h.own j o e
  apart := fun j k o o' p e1 e2 s1 s2 => by
    have go : ∀ {j : Nat} {o : SO}, (Γ.set i (some (.val d)))[j]? = some (some (.own o)) → i ≠ j := fun {j o} e z => by
      subst z
      by_cases hl : i < Γ.length
      · rw [List.getElem?_set_self hl] at e
        cases e
      · rw [List.getElem?_eq_none (by rw [List.length_set]; omega)] at e
        cases e
    have n1 := go e1
    have n2 := go e2
    rw [List.getElem?_set_ne n1] at e1 s1
    rw [List.getElem?_set_ne n2] at e2 s2
    exact h.apart j k o o' p e1 e2 s1 s2
/-- a slot gets a new object of its own -/
theorem SlOk.setN (h : SlOk K Γ σ H Hf μ) (i : Nat) {o : SO} {p : Addr} {u : HO} (hp : H p = some u) (ho : ORep K μ Hf o u) (hf : Hf p = none) (hm : p ∉ μ)
    (hn : ∀ (j : Nat) (o' : SO), i ≠ j → Γ[j]? = some (some (.own o')) → σ[j]? ≠ some (some (V.ref p))) : SlOk K (Γ.set i (some (.own o))) (σ.set i (some (V.ref p))) H Hf μ where
  len := by simp [h.len]
  val := fun j c e => by
    by_cases hj : i = j
    · subst hj
      by_cases hl : i < Γ.length
      · rw [List.getElem?_set_self hl] at e
        cases e
      · rw [List.getElem?_eq_none (by rw [List.length_set]; omega)] at e
        cases e
    · rw [List.getElem?_set_ne hj] at e
      obtain ⟨u, e1, e2⟩ := h.val j c e
      exact ⟨u, by rw [List.getElem?_set_ne hj]; exact e1, e2⟩
  own := fun j o' e => by
    by_cases hj : i = j
    · subst hj
      by_cases hl : i < Γ.length
      · rw [List.getElem?_set_self hl] at e
        cases e
        exact ⟨p, u, List.getElem?_set_self (by rw [← h.len]; exact hl), hp, ho, hf, hm⟩
      · rw [List.getElem?_eq_none (by rw [List.length_set]; omega)] at e
        cases e
    · rw [List.getElem?_set_ne hj] at e
      rw [List.getElem?_set_ne hj]
      exact h.own j o' e
  apart := fun j k o1 o2 q e1 e2 s1 s2 => by
    by_cases hj : i = j
    · by_cases hk : i = k
      · rw [← hj, ← hk]
      · subst hj
        by_cases hl : i < σ.length
        · rw [List.getElem?_set_self hl] at s1
          cases s1
          rw [List.getElem?_set_ne hk] at e2 s2
          exact absurd s2 (hn k o2 hk e2)
        · rw [List.getElem?_eq_none (by rw [List.length_set]; omega)] at s1
          cases s1
    · rw [List.getElem?_set_ne hj] at e1 s1
      by_cases hk : i = k
      · subst hk
        by_cases hl : i < σ.length
        · rw [List.getElem?_set_self hl] at s2
          cases s2
          exact absurd s1 (hn j o1 hj e1)
        · rw [List.getElem?_eq_none (by rw [List.length_set]; omega)] at s2
          cases s2
      · rw [List.getElem?_set_ne hk] at e2 s2
        exact h.apart j k o1 o2 q e1 e2 s1 s2
theorem Rl.setV (r : Rl K B Γ S σ H Hf μ) (i : Nat) {d : D} {v : V} (h : Rep K μ Hf d v) : Rl K B (Γ.set i (some (.val d))) S (σ.set i (some v)) H Hf μ :=
  ⟨r.sl.setV i h, r.so, r.st, fun j o p e1 e2 => by
    by_cases hj : i = j
    · subst hj
      by_cases hl : i < Γ.length
      · rw [List.getElem?_set_self hl] at e1
        cases e1
      · rw [List.getElem?_eq_none (by rw [List.length_set]; omega)] at e1
        cases e1
    · rw [List.getElem?_set_ne hj] at e1 e2
      exact r.own j o p e1 e2, r.fz, r.pm⟩
theorem Rl.setN (r : Rl K B Γ S σ H Hf μ) (i : Nat) {o : SO} {p : Addr} {u : HO} (hp : H p = some u) (ho : ORep K μ Hf o u) (hf : Hf p = none) (hm : p ∉ μ) (hb : B.H p = none)
    (hn : ∀ (j : Nat) (o' : SO), i ≠ j → Γ[j]? = some (some (.own o')) → σ[j]? ≠ some (some (V.ref p))) : Rl K B (Γ.set i (some (.own o))) S (σ.set i (some (V.ref p))) H Hf μ :=
  ⟨r.sl.setN i hp ho hf hm hn, r.so, r.st, fun j o' q e1 e2 => by
    by_cases hj : i = j
    · subst hj
      by_cases hl : i < σ.length
      · rw [List.getElem?_set_self hl] at e2
        cases e2
        exact hb
      · rw [List.getElem?_eq_none (by rw [List.length_set]; omega)] at e2
        cases e2
    · rw [List.getElem?_set_ne hj] at e1 e2
      exact r.own j o' q e1 e2, r.fz, r.pm⟩
/-- a slot is forgotten -/
theorem SlOk.setO (h : SlOk K Γ σ H Hf μ) (i : Nat) (x : Option V) : SlOk K (Γ.set i none) (σ.set i x) H Hf μ where
  len := by simp [h.len]
  val := fun j c e => by
    by_cases hj : i = j
    · subst hj
      by_cases hl : i < Γ.length
      · rw [List.getElem?_set_self hl] at e
        cases e
      · rw [List.getElem?_eq_none (by rw [List.length_set]; omega)] at e
        cases e
    · rw [List.getElem?_set_ne hj] at e
      obtain ⟨u, e1, e2⟩ := h.val j c e
      exact ⟨u, by rw [List.getElem?_set_ne hj]; exact e1, e2⟩
  own := fun j o e => by
    by_cases hj : i = j
    · subst hj
      by_cases hl : i < Γ.length
      · rw [List.getElem?_set_self hl] at e
        cases e
      · rw [List.getElem?_eq_none (by rw [List.length_set]; omega)] at e
        cases e
    · rw [List.getElem?_set_ne hj] at e
      rw [List.getElem?_set_ne hj]
      exact h.own j o e
  apart := fun j k o o' p e1 e2 s1 s2 => by
    have go : ∀ {j : Nat} {o : SO}, (Γ.set i none)[j]? = some (some (.own o)) → i ≠ j := fun {j o} e z => by
      subst z
      by_cases hl : i < Γ.length
      · rw [List.getElem?_set_self hl] at e
        cases e
      · rw [List.getElem?_eq_none (by rw [List.length_set]; omega)] at e
        cases e
    have n1 := go e1
    have n2 := go e2
    rw [List.getElem?_set_ne n1] at e1 s1
    rw [List.getElem?_set_ne n2] at e2 s2
    exact h.apart j k o o' p e1 e2 s1 s2

/-- an expression's end as a statement's -/
def ofE (Γ : Gm) (r : RE RS) : RS := match r with
  | .ok s _ => s
  | .ex C fs S => .ex C fs Γ S
  | .no => .no
def bindS {α : Type} (Γ : Gm) (r : RE α) (k : α → Store → RS) : RS := match r with
  | .ok a S => k a S
  | .ex C fs S => .ex C fs Γ S
  | .no => .no
@[simp] theorem bindS_ok {α : Type} (Γ : Gm) (a : α) (S : Store) (k : α → Store → RS) : bindS Γ (.ok a S) k = k a S := rfl
@[simp] theorem bindS_ex {α : Type} (Γ : Gm) (C : PySem.Str) (fs : List (PySem.Str × D)) (S : Store) (k : α → Store → RS) : bindS Γ (.ex C fs S : RE α) k = .ex C fs Γ S := rfl
@[simp] theorem bindS_no {α : Type} (Γ : Gm) (k : α → Store → RS) : bindS Γ (.no : RE α) k = .no := rfl
theorem SOut.bind {α β : Type} {R : RR α β} {E : Ends} {r : RE α} {k : α → Store → RS} {Q : β → Hp → Prop} (rl : Rl K B Γ S σ H Hf μ) (o : SOut K B W E (bindS Γ r k))
    (h : ∀ d S1 v H1 Hf1 μ1, r = .ok d S1 → Step H Hf μ H1 Hf1 μ1 → Rl K B Γ S1 σ H1 Hf1 μ1 → R H H1 Hf1 μ1 d v → SOut K B W E (k d S1) → Q v H1) : Out K R W σ H Hf μ r Q := by
  cases r with
  | ok d S' => exact fun v H' Hf' μ' st so re => h d S' v H' Hf' μ' rfl st (rl.step st so) re o
  | ex C fs S' => exact fun dd fv H' Hf' μ' st so hd fr => o dd fv σ H' Hf' μ' (rl.step st so) hd fr
  | no => exact o
end

/-! ### plain statements -/
def sNx : Es := fun Γ S => .nx Γ S
def sBk : Es := fun Γ S => .bk Γ S
def sCt : Es := fun Γ S => .ct Γ S
def sSeq (f g : Es) : Es := fun Γ S => match f Γ S with
  | .nx Γ' S' => g Γ' S'
  | r => r
def sRt (f : Ev D) : Es := fun Γ S => bindS Γ (f Γ S) fun d S' => .rt d S'
def sRtN : Es := fun _ S => .rt .non S
def sDr (f : Ev D) : Es := fun Γ S => bindS Γ (f Γ S) fun _ S' => .nx Γ S'
def sSet (i : Nat) (f : Ev D) : Es := fun Γ S => bindS Γ (f Γ S) fun d S' => .nx (Γ.set i (some (.val d))) S'
def sNew (i : Nat) (f : Ev SO) : Es := fun Γ S => bindS Γ (f Γ S) fun o S' => .nx (Γ.set i (some (.own o))) S'
def sIf (c : Ev Bool) (f g : Es) : Es := fun Γ S => bindS Γ (c Γ S) fun b S' => if b then f Γ S' else g Γ S'
section
variable {X : Cx} {B : Base} {W : WX} {st : Stmt} {sts : List Stmt} {f g : Es} {fe : Ev D} {fn : Ev SO} {e : Expr} {pos : Pos}
theorem ds_pass : DS X B W (.Pass pos) sNx := fun fl ml => PS_imp ps_pass fun E σ H ⟨Γ, S, Hf, μ, r, o⟩ => o σ H Hf μ r
theorem ds_break : DS X B W (.Break pos) sBk := fun fl ml => PS_imp ps_break fun E σ H ⟨Γ, S, Hf, μ, r, o⟩ => o σ H Hf μ r
theorem ds_cont : DS X B W (.Continue pos) sCt := fun fl ml => PS_imp ps_continue fun E σ H ⟨Γ, S, Hf, μ, r, o⟩ => o σ H Hf μ r
theorem dss_nil : DSs X B W [] sNx := fun fl ml => PSs_imp pss_nil fun E σ H ⟨Γ, S, Hf, μ, r, o⟩ => o σ H Hf μ r
theorem dss_one (h : DS X B W st f) : DSs X B W [st] f := fun fl ml => pss_one (h fl ml)
theorem dss_cons (h : DS X B W st f) (k : DSs X B W sts g) : DSs X B W (st :: sts) (sSeq f g) := by
  intro fl ml
  refine PSs_imp (pss_cons (h fl ml) (k fl ml)) fun E σ H ⟨Γ, S, Hf, μ, r, o⟩ => ⟨Γ, S, Hf, μ, r, ?_⟩
  unfold sSeq at o
  cases e : f Γ S with
  | nx Γ' S' =>
    rw [e] at o
    exact fun σ' H' Hf' μ' r' => ⟨Γ', S', Hf', μ', r', o⟩
  | rt d S' => rw [e] at o; exact o
  | bk Γ' S' => rw [e] at o; exact o
  | ct Γ' S' => rw [e] at o; exact o
  | ex C fs Γ' S' => rw [e] at o; exact o
  | no => rw [e] at o; exact o
/-- code that is never come to -/
theorem dss_never : DSs X B W sts (fun _ _ => .no) := fun fl ml => PSs_imp pss_never fun E σ H ⟨Γ, S, Hf, μ, r, o⟩ => o.elim
theorem ds_never : DS X B W st (fun _ _ => .no) := fun fl ml => PS_imp ps_never fun E σ H ⟨Γ, S, Hf, μ, r, o⟩ => o.elim
theorem ds_ret (h : DE X W e fe) : DS X B W (.Return (some e) pos) (sRt fe) :=
  fun fl ml => PS_imp (ps_ret h) fun E σ H ⟨Γ, S, Hf, μ, r, o⟩ => ⟨Γ, S, Hf, μ, r.sl, r.so, SOut.bind r o fun d S1 v H1 Hf1 μ1 _ s1 r1 re o1 => o1 v H1 Hf1 μ1 r1.st r1.so re⟩
theorem ds_retN : DS X B W (.Return none pos) sRtN :=
  fun fl ml => PS_imp ps_retN fun E σ H ⟨Γ, S, Hf, μ, r, o⟩ => o .non H Hf μ r.st r.so (by simp only [Rep])
theorem ds_expr (h : DE X W e fe) (hs : swapsWith e none pos.line X.env = pure false := by rfl) : DS X B W (.Expr e pos) (sDr fe) :=
  fun fl ml => PS_imp (ps_expr h hs) fun E σ H ⟨Γ, S, Hf, μ, r, o⟩ => ⟨Γ, S, Hf, μ, r.sl, r.so, SOut.bind r o fun d S1 v H1 Hf1 μ1 _ s1 r1 re o1 => o1 σ H1 Hf1 μ1 r1⟩
theorem ds_doc {x j pos'} : DS X B W (.Expr (.Constant (.str x) j pos') pos) sNx := fun fl ml => PS_imp ps_doc fun E σ H ⟨Γ, S, Hf, μ, r, o⟩ => o σ H Hf μ r
theorem tS_set {K : PySem.W.Frag} {i : Nat} {E : Ends} {σ : L2.St} {H : Hp} (h : tS K B W (sSet i fe) E σ H) : tAsg (tE K W fe) (gName i) E σ H := by
  obtain ⟨Γ, S, Hf, μ, r, o⟩ := h
  exact ⟨Γ, S, Hf, μ, r.sl, r.so, SOut.bind r o fun d S1 v H1 Hf1 μ1 _ s1 r1 re o1 => o1 _ H1 Hf1 μ1 (r1.setV i re)⟩
theorem tS_new {K : PySem.W.Frag} {i : Nat} {E : Ends} {σ : L2.St} {H : Hp} (h : tS K B W (sNew i fn) E σ H) : tAsg (tN K W fn) (gName i) E σ H := by
  obtain ⟨Γ, S, Hf, μ, r, o⟩ := h
  refine ⟨Γ, S, Hf, μ, r.sl, r.so, SOut.bind r o fun d S1 v H1 Hf1 μ1 _ s1 r1 re o1 => ?_⟩
  obtain ⟨p, u, rfl, hn, hp, ho, hf, hm⟩ := re
  refine o1 _ H1 Hf1 μ1 (r1.setN i hp ho hf hm ?_ fun j o' _ e1 e2 => ?_)
  · exact Classical.byContradiction fun z => r.st.th p z hn
  · obtain ⟨q, u', e3, e4, _⟩ := r.sl.own j o' e1
    rw [e3] at e2
    cases e2
    rw [hn] at e4
    cases e4
/-- name = value -/
theorem ds_set (i : Nat) {x : PySem.Str} {pos' : Pos} (h : DE X W e fe) (hN : X.N.Nodup) (hi : X.N[i]? = some x := by rfl) (hx : Loc X.env.scope x := by first | exact Or.inl rfl | exact Or.inr rfl)
    (hs : swapsWith e (some (.Name x pos')) pos.line X.env = pure false := by rfl) (hf : X.fn x = true ∨ X.env.scope.names.lookup x = some .local := by first | exact .inl rfl | exact .inr rfl | assumption) :
    DS X B W (.Assign [.Name x pos'] e pos) (sSet i fe) := fun fl ml => PS_imp (ps_set hN hi hx h hs hf) fun _ _ _ => tS_set
/-- name = a new object, kept to itself -/
theorem ds_new (i : Nat) {x : PySem.Str} {pos' : Pos} (h : DN X W e fn) (hN : X.N.Nodup) (hi : X.N[i]? = some x := by rfl) (hx : Loc X.env.scope x := by first | exact Or.inl rfl | exact Or.inr rfl)
    (hs : swapsWith e (some (.Name x pos')) pos.line X.env = pure false := by rfl) (hf : X.fn x = true ∨ X.env.scope.names.lookup x = some .local := by first | exact .inl rfl | exact .inr rfl | assumption) :
    DS X B W (.Assign [.Name x pos'] e pos) (sNew i fn) := fun fl ml => PS_imp (ps_set hN hi hx h hs hf) fun _ _ _ => tS_new
theorem ds_if {c : Expr} {a b : List Stmt} {fc : Ev Bool} (hc : DT X W c fc) (ha : DSs X B W a f) (hb : DSs X B W b g) : DS X B W (.If c a b pos) (sIf fc f g) := by
  intro fl ml
  refine PS_imp (ps_if hc (ha fl ml) (hb fl ml)) fun E σ H ⟨Γ, S, Hf, μ, r, o⟩ => ⟨Γ, S, Hf, μ, r.sl, r.so, SOut.bind r o fun d S1 v H1 Hf1 μ1 _ s1 r1 re o1 => ?_⟩
  obtain rfl : d = v := re
  cases d with
  | true => rw [if_pos rfl] at o1; rw [if_pos rfl]; exact ⟨Γ, S1, Hf1, μ1, r1, o1⟩
  | false => rw [if_neg Bool.false_ne_true] at o1; rw [if_neg Bool.false_ne_true]; exact ⟨Γ, S1, Hf1, μ1, r1, o1⟩
end

/-! ### tests -/
/-- a truth value told -/
def toB (f : Ev D) : Ev Bool := fun Γ S => (f Γ S).bind fun d S' => match d with
  | .bl b => .ok b S'
  | _ => .no
def ofB (f : Ev Bool) : Ev D := fun Γ S => (f Γ S).bind fun b S' => .ok (.bl b) S'
section
variable {X : Cx} {W : WX} {e a b c : Expr} {f fa fb : Ev D} {ta tb tc : Ev Bool} {pos : Pos} {rest : List Expr}
theorem tE_toB {K : PySem.W.Frag} {σ : L2.St} {H : Hp} {Q : Bool → Hp → Prop} (q : tT K W (toB f) σ H Q) : tB (tE K W f) σ H Q := by
  obtain ⟨Γ, S, Hf, μ, sl, so, o⟩ := q
  refine ⟨Γ, S, Hf, μ, sl, so, Out.bind sl rm_eq o fun x S1 v H1 Hf1 μ1 _ s1 sl1 so1 r1 o1 => ?_⟩
  cases x with
  | bl b =>
    obtain rfl : v = .bl b := by simpa only [Rep] using r1
    exact ⟨b, rfl, o1 b H1 Hf1 μ1 (Step.refl _ _ _) so1 rfl⟩
  | _ => exact o1.elim
theorem dt_val (h : DE X W e f) (he : ∀ whole, isTrue e X.env whole = (do let v ← whole; standAt e.pos; holding [v] (truthy v)) := by intro _; rfl) : DT X W e (toB f) :=
  PT_imp (pt_val h he) fun _ _ _ => tE_toB
theorem dt_cmp {o : CmpOp} {r : R2} {op : D → D → Option D} (ho : OpR X (compareOp o) r) (hop : OpD X.K r op) (ha : DE X W a fa) (hb : DE X W b fb) (hm : behindInMarks o b = false) : DT X W (.Compare a [o] [b] pos) (toB (eBin op fa fb)) := by
  refine PT_imp (pt_cmpR ho ha hb hm) fun σ H Q q => ?_
  obtain ⟨Γ, S, Hf, μ, sl, so, o⟩ := tE_toB q
  exact tE_bin hop ⟨Γ, S, Hf, μ, sl, so, o⟩
def bNot (t : Ev Bool) : Ev Bool := fun Γ S => (t Γ S).bind fun b S' => .ok (!b) S'
def bAnd (t u : Ev Bool) : Ev Bool := fun Γ S => (t Γ S).bind fun b S' => if b then u Γ S' else .ok false S'
def bOr (t u : Ev Bool) : Ev Bool := fun Γ S => (t Γ S).bind fun b S' => if b then .ok true S' else u Γ S'
theorem dt_not (h : DT X W a ta) : DT X W (.UnaryOp .Not a pos) (bNot ta) :=
  PT_imp (pt_not h) fun σ H Q ⟨Γ, S, Hf, μ, sl, so, o⟩ => ⟨Γ, S, Hf, μ, sl, so, Out.bind sl rm_eq o fun x S1 v H1 Hf1 μ1 _ s1 sl1 so1 r1 o1 => by
    obtain rfl : x = v := r1
    exact o1 (!x) H1 Hf1 μ1 (Step.refl _ _ _) so1 rfl⟩
/-- a test of and, or, whatever its whole -/
abbrev DW (X : Cx) (W : WX) (e : Expr) (f : Ev Bool) : Prop := PW X e (tT X.K W f)
theorem PW_imp {X : Cx} {e : Expr} {t t' : TT} (h : PW X e t) (k : ∀ σ H Q, t' σ H Q → t σ H Q) : PW X e t' := ⟨fun wh pins s σ H Q I hq => h.run wh pins s σ H Q I (k σ H Q hq)⟩
theorem dw_and1 (h : DT X W a ta) : DW X W (.BoolOp .And [a] pos) ta := pw_and1 h
theorem dw_or1 (h : DT X W a ta) : DW X W (.BoolOp .Or [a] pos) ta := pw_or1 h
theorem dw_and (h : DT X W a ta) (k : DW X W (.BoolOp .And (b :: rest) pos) tb) : DW X W (.BoolOp .And (a :: b :: rest) pos) (bAnd ta tb) :=
  PW_imp (pw_and h k) fun σ H Q ⟨Γ, S, Hf, μ, sl, so, o⟩ => ⟨Γ, S, Hf, μ, sl, so, Out.bind sl rm_eq o fun x S1 v H1 Hf1 μ1 _ s1 sl1 so1 r1 o1 => by
    obtain rfl : x = v := r1
    cases x with
    | true => rw [if_pos rfl] at o1; rw [if_pos rfl]; exact ⟨Γ, S1, Hf1, μ1, sl1, so1, o1⟩
    | false => rw [if_neg Bool.false_ne_true] at o1; rw [if_neg Bool.false_ne_true]; exact o1 false H1 Hf1 μ1 (Step.refl _ _ _) so1 rfl⟩
theorem dw_or (h : DT X W a ta) (k : DW X W (.BoolOp .Or (b :: rest) pos) tb) : DW X W (.BoolOp .Or (a :: b :: rest) pos) (bOr ta tb) :=
  PW_imp (pw_or h k) fun σ H Q ⟨Γ, S, Hf, μ, sl, so, o⟩ => ⟨Γ, S, Hf, μ, sl, so, Out.bind sl rm_eq o fun x S1 v H1 Hf1 μ1 _ s1 sl1 so1 r1 o1 => by
    obtain rfl : x = v := r1
    cases x with
    | true => rw [if_pos rfl] at o1; rw [if_pos rfl]; exact o1 true H1 Hf1 μ1 (Step.refl _ _ _) so1 rfl
    | false => rw [if_neg Bool.false_ne_true] at o1; rw [if_neg Bool.false_ne_true]; exact ⟨Γ, S1, Hf1, μ1, sl1, so1, o1⟩⟩
/-- as values -/
def eNot (f : Ev D) : Ev D := fun Γ S => (f Γ S).bind fun d S' => match d with
  | .bl b => .ok (.bl (!b)) S'
  | _ => .no
theorem de_not (h : DE X W a fa) : DE X W (.UnaryOp .Not a pos) (eNot fa) :=
  PE_imp (pe_not h) fun σ H Q ⟨Γ, S, Hf, μ, sl, so, o⟩ => ⟨Γ, S, Hf, μ, sl, so, Out.bind sl rm_rep o fun x S1 v H1 Hf1 μ1 _ s1 sl1 so1 r1 o1 => by
    cases x with
    | bl b =>
      obtain rfl : v = .bl b := by simpa only [Rep] using r1
      exact ⟨b, rfl, o1 (.bl (!b)) H1 Hf1 μ1 (Step.refl _ _ _) so1 (by simp only [Rep])⟩
    | _ => exact o1.elim⟩
def eAnd (f g : Ev D) : Ev D := fun Γ S => (f Γ S).bind fun x S' => match x with
  | .bl true => g Γ S'
  | .bl false => .ok (.bl false) S'
  | _ => .no
def eOr (f g : Ev D) : Ev D := fun Γ S => (f Γ S).bind fun x S' => match x with
  | .bl true => .ok (.bl true) S'
  | .bl false => g Γ S'
  | _ => .no
theorem de_one {op} (h : DE X W a fa) : DE X W (.BoolOp op [a] pos) fa := pe_one h
theorem de_and (h : DE X W a fa) (k : DE X W (.BoolOp .And (b :: rest) pos) fb) : DE X W (.BoolOp .And (a :: b :: rest) pos) (eAnd fa fb) :=
  PE_imp (pe_and h k) fun σ H Q ⟨Γ, S, Hf, μ, sl, so, o⟩ => ⟨Γ, S, Hf, μ, sl, so, Out.bind sl rm_rep o fun x S1 v H1 Hf1 μ1 _ s1 sl1 so1 r1 o1 => by
    cases x with
    | bl c =>
      obtain rfl : v = .bl c := by simpa only [Rep] using r1
      refine ⟨c, rfl, ?_⟩
      cases c with
      | true => rw [if_pos rfl]; exact ⟨Γ, S1, Hf1, μ1, sl1, so1, o1⟩
      | false => rw [if_neg Bool.false_ne_true]; exact o1 (.bl false) H1 Hf1 μ1 (Step.refl _ _ _) so1 (by simp only [Rep])
    | _ => exact o1.elim⟩
theorem de_or (h : DE X W a fa) (k : DE X W (.BoolOp .Or (b :: rest) pos) fb) : DE X W (.BoolOp .Or (a :: b :: rest) pos) (eOr fa fb) :=
  PE_imp (pe_or h k) fun σ H Q ⟨Γ, S, Hf, μ, sl, so, o⟩ => ⟨Γ, S, Hf, μ, sl, so, Out.bind sl rm_rep o fun x S1 v H1 Hf1 μ1 _ s1 sl1 so1 r1 o1 => by
    cases x with
    | bl c =>
      obtain rfl : v = .bl c := by simpa only [Rep] using r1
      refine ⟨c, rfl, ?_⟩
      cases c with
      | true => rw [if_pos rfl]; exact o1 (.bl true) H1 Hf1 μ1 (Step.refl _ _ _) so1 (by simp only [Rep])
      | false => rw [if_neg Bool.false_ne_true]; exact ⟨Γ, S1, Hf1, μ1, sl1, so1, o1⟩
    | _ => exact o1.elim⟩
/-- a if c else b -/
def eIf (c : Ev Bool) (f g : Ev D) : Ev D := fun Γ S => (c Γ S).bind fun b S' => if b then f Γ S' else g Γ S'
theorem de_if (hc : DT X W c tc) (ha : DE X W a fa) (hb : DE X W b fb) : DE X W (.IfExp c a b pos) (eIf tc fa fb) :=
  PE_imp (pe_ifExp hc ha hb) fun σ H Q ⟨Γ, S, Hf, μ, sl, so, o⟩ => ⟨Γ, S, Hf, μ, sl, so, Out.bind sl rm_rep o fun x S1 v H1 Hf1 μ1 _ s1 sl1 so1 r1 o1 => by
    obtain rfl : x = v := r1
    cases x with
    | true => rw [if_pos rfl] at o1; rw [if_pos rfl]; exact ⟨Γ, S1, Hf1, μ1, sl1, so1, o1⟩
    | false => rw [if_neg Bool.false_ne_true] at o1; rw [if_neg Bool.false_ne_true]; exact ⟨Γ, S1, Hf1, μ1, sl1, so1, o1⟩⟩
end

/-! ### argument lists, displays -/
def aNil : Ev (List D) := fun _ S => .ok [] S
def aCons (f : Ev D) (g : Ev (List D)) : Ev (List D) := fun Γ S => (f Γ S).bind fun d S1 => (g Γ S1).bind fun ds S2 => .ok (d :: ds) S2
def eTup (g : Ev (List D)) : Ev D := fun Γ S => (g Γ S).bind fun ds S1 => if ds.length ≤ sizeLine then .ok (.tup ds) S1 else .no
def nLst (g : Ev (List D)) : Ev SO := fun Γ S => (g Γ S).bind fun ds S1 => if ds.length ≤ sizeLine then .ok (.lst ds) S1 else .no
section
variable {X : Cx} {W : WX} {e : Expr} {es : List Expr} {f : Ev D} {g : Ev (List D)} {fn : Ev SO} {pos : Pos}
theorem da_nil : DA X W [] aNil := PA_imp pa_nil fun σ H Q ⟨Γ, S, Hf, μ, sl, so, o⟩ => o [] H Hf μ (Step.refl _ _ _) so RepL.nil
theorem da_cons (h : DE X W e f) (k : DA X W es g) (hs : starEach (e :: es) X.env = (false, eval e X.env) :: starEach es X.env := by rfl) : DA X W (e :: es) (aCons f g) :=
  PA_imp (pa_cons h k hs) fun σ H Q ⟨Γ, S, Hf, μ, sl, so, o⟩ => ⟨Γ, S, Hf, μ, sl, so, Out.bind sl rm_repL o fun d S1 v H1 Hf1 μ1 _ s1 sl1 so1 r1 o1 =>
    ⟨Γ, S1, Hf1, μ1, sl1, so1, Out.bind sl1 rm_repL o1 fun ds S2 vs H2 Hf2 μ2 _ s2 sl2 so2 r2 o2 => o2 (v :: vs) H2 Hf2 μ2 (Step.refl _ _ _) so2 (RepL.cons (s2.rep r1) r2)⟩⟩
/-- a tuple is laid and frozen -/
theorem Step.lay {K : PySem.W.Frag} {S : Store} {H Hf : Hp} {μ : List Addr} {p : Addr} {u : HO} (so : StoOk K S H Hf μ) (hp : H p = none) :
    Step H Hf μ (upd H p u) (upd Hf p u) μ ∧ StoOk K S (upd H p u) (upd Hf p u) μ := by
  have hf : Hf p = none := Classical.byContradiction fun z => by
    cases e : Hf p with
    | none => exact z e
    | some o => rw [so.sub p o e] at hp; cases hp
  have sb : Sub Hf (upd Hf p u) := fun a o e => by rw [upd_ne (ne_of_none e hf)]; exact e
  have nm : ∀ a ∈ μ, a ≠ p := fun a m z => by
    obtain ⟨n, e⟩ := List.mem_iff_getElem?.mp m
    have hn : n < S.length := by rw [← so.len]; exact (List.getElem?_eq_some_iff.mp e).1
    obtain ⟨w', e1, _⟩ := so.ob n S[n] a (by simp [hn]) e
    rw [z, hp] at e1
    cases e1
  refine ⟨⟨fun a o e _ => by rw [upd_ne (ne_of_none e hp)]; exact e, sb, fun a h1 h2 => ?_, Pre.refl _, fun a m => .inl m, fun a h => ?_⟩, ⟨fun a o e => ?_, so.len, so.nd, fun n o a e1 e2 => ?_, fun a m => ?_⟩⟩
  · rw [upd_ne (show a ≠ p from fun z => h2 (z ▸ hp))]; exact h1
  · rw [upd_ne (show a ≠ p from fun z => h (z ▸ hp))]; exact h
  · by_cases z : a = p
    · subst z; rw [upd_same] at e ⊢; exact e
    · rw [upd_ne z] at e ⊢; exact so.sub a o e
  · obtain ⟨w', q1, q2⟩ := so.ob n o a e1 e2
    exact ⟨w', by rw [upd_ne (nm a (List.mem_of_getElem? e2))]; exact q1, q2.mono sb (Pre.refl _)⟩
  · rw [upd_ne (nm a m)]; exact so.fz a m
/-- a new object is laid, unknown to others -/
theorem Step.layN {K : PySem.W.Frag} {S : Store} {H Hf : Hp} {μ : List Addr} {p : Addr} {u : HO} (so : StoOk K S H Hf μ) (hp : H p = none) :
    Step H Hf μ (upd H p u) Hf μ ∧ StoOk K S (upd H p u) Hf μ ∧ Hf p = none ∧ p ∉ μ := by
  have hf : Hf p = none := Classical.byContradiction fun z => by
    cases e : Hf p with
    | none => exact z e
    | some o => rw [so.sub p o e] at hp; cases hp
  have nm : ∀ a ∈ μ, a ≠ p := fun a m z => by
    obtain ⟨n, e⟩ := List.mem_iff_getElem?.mp m
    have hn : n < S.length := by rw [← so.len]; exact (List.getElem?_eq_some_iff.mp e).1
    obtain ⟨w', e1, _⟩ := so.ob n S[n] a (by simp [hn]) e
    rw [z, hp] at e1
    cases e1
  refine ⟨⟨fun a o e _ => by rw [upd_ne (ne_of_none e hp)]; exact e, Sub.refl _, fun a h1 h2 => h1, Pre.refl _, fun a m => .inl m, fun a h => ?_⟩, ⟨fun a o e => ?_, so.len, so.nd, fun n o a e1 e2 => ?_, so.fz⟩, hf, fun m => nm p m rfl⟩
  · rw [upd_ne (show a ≠ p from fun z => h (z ▸ hp))]; exact h
  · rw [upd_ne (ne_of_none (so.sub a o e) hp)]; exact so.sub a o e
  · obtain ⟨w', q1, q2⟩ := so.ob n o a e1 e2
    exact ⟨w', by rw [upd_ne (nm a (List.mem_of_getElem? e2))]; exact q1, q2⟩
theorem de_tup {x1} (h : DA X W es g) : DE X W (.Tuple es x1 pos) (eTup g) :=
  PE_imp (pe_tup h) fun σ H Q ⟨Γ, S, Hf, μ, sl, so, o⟩ => ⟨Γ, S, Hf, μ, sl, so, Out.bind sl rm_rep o fun ds S1 vs H1 Hf1 μ1 _ s1 sl1 so1 r1 o1 => by
    by_cases hl : ds.length ≤ sizeLine
    · rw [if_pos hl] at o1
      have hv : vs.length ≤ sizeLine := by rw [r1.length]; exact hl
      refine ⟨hv, fun p hp => ?_⟩
      obtain ⟨st, so2⟩ := Step.lay (u := .tup vs) so1 hp
      exact o1 (.ref p) _ _ μ1 st so2 (by simp only [Rep]; exact ⟨p, vs, rfl, upd_same, hv, st.repL r1⟩)
    · rw [if_neg hl] at o1
      exact o1.elim⟩
theorem dn_lst (h : DA X W es g) : DN X W (.List es pos) (nLst g) :=
  PE_imp (pe_lst h) fun σ H Q ⟨Γ, S, Hf, μ, sl, so, o⟩ => ⟨Γ, S, Hf, μ, sl, so, Out.bind sl rm_new o fun ds S1 vs H1 Hf1 μ1 _ s1 sl1 so1 r1 o1 => by
    by_cases hl : ds.length ≤ sizeLine
    · rw [if_pos hl] at o1
      have hv : vs.length ≤ sizeLine := by rw [r1.length]; exact hl
      refine ⟨hv, fun p hp => ?_⟩
      obtain ⟨st, so2, hf, hm⟩ := Step.layN (u := .lst vs) so1 hp
      exact o1 (.ref p) _ _ μ1 st so2 ⟨p, .lst vs, rfl, hp, upd_same, ⟨vs, rfl, hv, r1⟩, hf, hm⟩
    · rw [if_neg hl] at o1
      exact o1.elim⟩
/-- a new list, frozen at once -/
def eFrz (f : Ev SO) : Ev D := fun Γ S => (f Γ S).bind fun o S1 => match o with
  | .lst ds => .ok (.lst ds) S1
  | _ => .no
theorem Step.frz {K : PySem.W.Frag} {S : Store} {H Hf : Hp} {μ : List Addr} {p : Addr} {u : HO} (so : StoOk K S H Hf μ) (hp : H p = some u) (hf : Hf p = none) (hm : p ∉ μ) :
    Sub Hf (upd Hf p u) ∧ StoOk K S H (upd Hf p u) μ := by
  have sb : Sub Hf (upd Hf p u) := fun a o e => by rw [upd_ne (ne_of_none e hf)]; exact e
  refine ⟨sb, ⟨fun a o e => ?_, so.len, so.nd, fun n o a e1 e2 => ?_, fun a m => ?_⟩⟩
  · by_cases z : a = p
    · subst z; rw [upd_same] at e; rw [hp]; exact e
    · rw [upd_ne z] at e; exact so.sub a o e
  · obtain ⟨w', q1, q2⟩ := so.ob n o a e1 e2
    exact ⟨w', q1, q2.mono sb (Pre.refl _)⟩
  · rw [upd_ne (show a ≠ p from fun z => hm (z ▸ m))]; exact so.fz a m
theorem tE_frz {K : PySem.W.Frag} {σ : L2.St} {H : Hp} {Q : VK} (q : tE K W (eFrz fn) σ H Q) : tN K W fn σ H Q := by
  obtain ⟨Γ, S, Hf, μ, sl, so, o⟩ := q
  refine ⟨Γ, S, Hf, μ, sl, so, ?_⟩
  unfold eFrz at o
  cases e : fn Γ S with
  | no => rw [e] at o; exact o
  | ex C fs S1 => rw [e] at o; exact o
  | ok d S1 =>
    rw [e, RE.bind_ok] at o
    cases d with
    | lst ds =>
      intro v H1 Hf1 μ1 s1 so1 r1
      obtain ⟨p, u, rfl, hn, hp, ⟨xs, rfl, z, r⟩, hf, hm⟩ := r1
      obtain ⟨sb, so2⟩ := Step.frz so1 hp hf hm
      refine o (.ref p) H1 _ μ1 ⟨s1.fr, s1.fz.trans sb, fun a h1 h2 => ?_, s1.mu, s1.nm, s1.th⟩ so2 ?_
      · rw [upd_ne (show a ≠ p from fun z => h2 (z ▸ hn))]; exact s1.nf a h1 h2
      · simp only [Rep]; exact ⟨p, xs, rfl, upd_same, z, RepL.mono sb (Pre.refl _) _ _ r⟩
    | _ => exact o.elim
theorem de_frz (h : DN X W e fn) : DE X W e (eFrz fn) := PE_imp h fun _ _ _ => tE_frz
/-- told as used at once -/
def eB (f : Ev D) : Ev D := f
theorem db_of (h : DE X W e f) : DB X W e f :=
  PE_imp h fun σ H Q ⟨Γ, S, Hf, μ, sl, so, o⟩ => ⟨Γ, S, Hf, μ, sl, so, by
    cases e : f Γ S with
    | no => rw [e] at o; exact o
    | ex C fs S1 => rw [e] at o; exact o
    | ok d S1 =>
      rw [e] at o
      exact fun v H1 Hf1 μ1 s1 so1 r1 => o v H1 Hf1 μ1 s1 so1 (.inl r1)⟩
def eVb (i : Nat) : Ev D := fun Γ S => match Γ[i]? with
  | some (some (.val d)) => .ok d S
  | some (some (.own (.lst ds))) => .ok (.lst ds) S
  | _ => .no
theorem db_v (i : Nat) {x : PySem.Str} {pos : Pos} (hN : X.N[i]? = some x := by rfl) (hv : Vis X.env.scope x := by first | exact Or.inl rfl | exact Or.inr (Or.inl rfl) | exact Or.inr (Or.inr rfl)) (hd : (x == ("__debug__" : PySem.Str)) = false := by decide)
    (hcd : (x == ("__classdict__" : PySem.Str)) = false := by decide) : DB X W (.Name x pos) (eVb i) := by
  refine PE_imp (pe_var (i := i) hN hv hd hcd) fun σ H Q ⟨Γ, S, Hf, μ, sl, so, o⟩ => ?_
  unfold eVb at o
  cases e : Γ[i]? with
  | none => rw [e] at o; exact o.elim
  | some s =>
    cases s with
    | none => rw [e] at o; exact o.elim
    | some s =>
      cases s with
      | own u =>
        rw [e] at o
        cases u with
        | lst ds =>
          obtain ⟨p, u, e1, _⟩ := sl.own i _ e
          exact ⟨.ref p, e1, o (.ref p) H Hf μ (Step.refl _ _ _) so (.inr ⟨i, ds, e, e1, rfl⟩)⟩
        | _ => exact o.elim
      | val d =>
        rw [e] at o
        obtain ⟨v, e1, r⟩ := sl.val i d e
        exact ⟨v, e1, o v H Hf μ (Step.refl _ _ _) so (.inl r)⟩
/-- what is known of a value that is used at once -/
def Bor (K : PySem.W.Frag) (H Hf : Hp) (μ : List Addr) (d : D) (v : V) : Prop :=
  Rep K μ Hf d v ∨ ∃ ds a xs, d = .lst ds ∧ v = V.ref a ∧ H a = some (.lst xs) ∧ xs.length ≤ sizeLine ∧ RepL K μ Hf ds xs
theorem BorR.bor {K : PySem.W.Frag} {Γ : Gm} {σ : L2.St} {H Hf H0 : Hp} {μ : List Addr} {d : D} {v : V} (sl : SlOk K Γ σ H Hf μ) (r : BorR K σ Γ H0 H Hf μ d v) : Bor K H Hf μ d v := by
  rcases r with r | ⟨i, ds, e1, e2, rfl⟩
  · exact .inl r
  · obtain ⟨p, u, e3, hp, ⟨xs, rfl, z, q⟩, _⟩ := sl.own i _ e1
    rw [e2] at e3
    cases e3
    exact .inr ⟨ds, p, xs, rfl, rfl, hp, z, q⟩
/-- the items of a list, a tuple, a list of the store -/
def viewL (S : Store) : D → Option (List D)
  | .lst ds => some ds
  | .kst ds => some ds
  | .tup ds => some ds
  | .loc n => match S[n]? with
    | some (.lst ds) => some ds
    | _ => none
  | _ => none
theorem viewL_ok {K : PySem.W.Frag} {S : Store} {H Hf : Hp} {μ : List Addr} {d : D} {v : V} {ds : List D} (so : StoOk K S H Hf μ) (b : Bor K H Hf μ d v) (h : viewL S d = some ds) :
    ∃ a xs, v = V.ref a ∧ (SqL K H a xs ∨ SqT K H a xs) ∧ xs.length ≤ sizeLine ∧ RepL K μ Hf ds xs := by
  rcases b with r | ⟨es, a, xs, rfl, rfl, hp, z, q⟩
  · cases d with
    | lst es =>
      simp only [Rep] at r
      obtain ⟨a, xs, e, q, z, rl⟩ := r
      cases h
      exact ⟨a, xs, e, .inl (SqL.of (so.sub _ _ q)), z, rl⟩
    | kst es =>
      simp only [Rep] at r
      obtain ⟨a, xs, e, q, z, rl⟩ := r
      cases h
      exact ⟨a, xs, e, .inl (so.sub.sl q), z, rl⟩
    | tup es =>
      simp only [Rep] at r
      obtain ⟨a, xs, e, q, z, rl⟩ := r
      cases h
      exact ⟨a, xs, e, .inr (so.sub.tp q), z, rl⟩
    | loc n =>
      simp only [Rep] at r
      obtain ⟨a, e, q⟩ := r
      have h : (match S[n]? with | some (.lst ds) => some ds | _ => none : Option (List D)) = some ds := h
      cases e2 : S[n]? with
      | none => rw [e2] at h; cases h
      | some o =>
        rw [e2] at h
        cases o with
        | lst es =>
          cases h
          obtain ⟨u, h1, ⟨xs, rfl, z, r⟩⟩ := so.ob n _ a e2 q
          exact ⟨a, xs, e, .inl (SqL.of h1), z, r⟩
        | _ => cases h
    | _ => cases h
  · cases h
    exact ⟨a, xs, rfl, .inl (SqL.of hp), z, q⟩
end
end DL
set_option Elab.async false
set_option linter.all false
set_option maxRecDepth 100000
/-! DLc: defs and their calls. -/
namespace DL
open PySem PySem.Spec PyProof.Rows L2

/-- a def at f keeps a promise, where nothing is being shown (guards) -/
structure FnG (P : Program) (w : World) (K : PySem.W.Frag) (mg : PySem.Str → Option Value) (base : Heap) (k : Nat) (f : Addr) (fd : FuncData) (ps : List PySem.Str) (sp : Sp) : Prop where
  len : ∀ vs H Q E, sp vs H Q E → vs.length = ps.length
  run : ∀ (A : Around) (outer : List Env) (s : Shared) (H : Hp) (args : Args) (us : List Value) (vs : List V) (Q : VK) (E : XK), Room k A → A.guards = some [] →
    Env0 P w K mg base A outer s H → BindsTo s fd args (ps.zip us) → Vals vs us → sp vs H Q E → codeAny (model P w) A (.call (.ref f) args) (CR (L2.CX P w) outer P w H s Q E) s

theorem fnG_of {P : Program} {w : World} {K : PySem.W.Frag} {mg : PySem.Str → Option Value} {base : Heap} {k : Nat} {f : Addr} {x qual : PySem.Str} {params : Arguments} {body : List Stmt} {scope : Scope} {dvs : List V} {kws : List (PySem.Str × V)} {fd : FuncData}
    {N ps : List PySem.Str} {sp : Sp} (F : FunD K x qual params body scope dvs kws f fd) (S : FnScope N ps scope) (len : ∀ vs H Q E, sp vs H Q E → vs.length = ps.length)
    (hbody : ∀ (cdv : Value) (A : Around) (outer : List Env) (s : Shared) (H : Hp) (vs : List V) (Q : VK) (E : XK), Room k (A.deeper (envOfC qual scope s.heap.objs.size f cdv)) → (A.deeper (envOfC qual scope s.heap.objs.size f cdv)).guards = some [] → sp vs H Q E →
      ∃ t, PSs (cxOf (L2.CX P w) P w K mg base N qual scope f cdv A outer s H E) body t ∧ t { nx := fun _ H' => Q .non H', rt := Q } (L2.start N vs) H) : FnG P w K mg base (k + 1) f fd ps sp := by
  obtain ⟨oc, od, dV, kV, doc, pm, an, cdv, ct, osl, rfl, lk, hcd, _, _⟩ := F.ex
  refine ⟨len, fun A outer s H args us vs Q E hr hgd e0 hb r hsp => ?_⟩
  have lps := len _ _ _ _ hsp
  have below : ∀ b o, base.get? b = some o → s.heap.get? b = some o := fun b o e => (e0.bs b o e).1
  have inK : K.In s.heap := e0.mod.kin.keeps below
  have nolim : s.heap.NoLimit := e0.mod.nolimit.keeps below
  have kinds : ∀ y ∈ ps.zip us, scope.names.lookup y.1 = some .local ∨ (scope.names.lookup y.1 = some .cell ∧ ((cellsFrom (s.heap.objs.size + 1) scope.names []).lookup y.1).isSome = true) := by
    rintro ⟨nm, vl⟩ hy
    exact (S.par nm (List.of_mem_zip hy).1).elim .inl fun q => .inr ⟨q, PySem.W.cellsFrom_some _ _ _ (.inl q)⟩
  refine codeAny_call_function hr.depth (inK _ _ lk) rfl S.co S.gen rfl (PySem.W.codeRec_of inK hcd)
    (hb _ _ _ _ (wpAny_newFunctionEnv_cells S.kind kinds fun env he s1 entered => ?_))
  subst he
  refine ⟨nolim.keeps entered.toInCall.keep, codeAny_func ?_⟩
  obtain ⟨t, ht, hq⟩ := hbody cdv A outer s H vs Q E (hr.deeper _) hgd hsp
  have I0 := inv_start (CX := L2.CX P w) (mg := mg) (base := base) (E := E) S hr.hd e0 lps r entered
  refine wpAny_mono (ht.run [] s1 (L2.start N vs) H _ I0 hq) (fun fl s' hs => ?_) (fun e s' hs => hs)
  cases fl with
  | ret u =>
    obtain ⟨v, σ', H', J, rv, q⟩ := hs
    exact ⟨v, H', J.os, J.bare, J.base, J.hok, rv, q⟩
  | next =>
    obtain ⟨σ', H', J, q⟩ := hs
    exact ⟨V.non, H', J.os, J.bare, J.base, J.hok, (rfl : Value.none = Value.none), q⟩
  | brk => exact hs.elim fun _ z => z.elim fun _ z => z.2.elim
  | cont => exact hs.elim fun _ z => z.elim fun _ z => z.2.elim

/-! ### a def's meaning -/
abbrev Fn := List D → Store → RE D
/-- the promise: what F tells of the arguments comes -/
def spD (K : PySem.W.Frag) (n : Nat) (F : Fn) : Sp := fun vs H Q E => vs.length = n ∧ ∃ ds S Hf μ, RepL K μ Hf ds vs ∧ StoOk K S H Hf μ ∧ Out K (RepR K) (fun c d _ H' => E c d H') [] H Hf μ (F ds S) Q
/-- the slots at the entry -/
def ini (n : Nat) (ds : List D) : Gm := ds.map (fun d => some (.val d)) ++ List.replicate (n - ds.length) none
/-- a body's meaning as a def's -/
def fnOf (n : Nat) (f : Es) : Fn := fun ds S => match f (ini n ds) S with
  | .rt d S' => .ok d S'
  | .nx _ S' => .ok .non S'
  | .ex C fs _ S' => .ex C fs S'
  | _ => .no
theorem ini_get {n : Nat} {ds : List D} {i : Nat} {s : Sl} (h : (ini n ds)[i]? = some (some s)) : ∃ d, s = .val d ∧ ds[i]? = some d := by
  unfold ini at h
  by_cases hi : i < ds.length
  · rw [List.getElem?_append_left (by simpa using hi), List.getElem?_map] at h
    cases e : ds[i]? with
    | none => rw [e] at h; cases h
    | some d => rw [e] at h; cases h; exact ⟨d, rfl, rfl⟩
  · rw [List.getElem?_append_right (by simpa using hi), List.getElem?_replicate] at h
    split at h <;> cases h
theorem Rl.ini {K : PySem.W.Frag} {N : List PySem.Str} {ds : List D} {vs : List V} {S : Store} {H Hf : Hp} {μ : List Addr} (r : RepL K μ Hf ds vs) (so : StoOk K S H Hf μ) : Rl K ⟨H, Hf, μ, fun _ => none, []⟩ (DL.ini N.length ds) S (L2.start N vs) H Hf μ := by
  have no : ∀ {i : Nat} {o : SO}, (DL.ini N.length ds)[i]? = some (some (.own o)) → False := fun {i o} e => by
    obtain ⟨d, e1, _⟩ := ini_get e
    cases e1
  refine ⟨⟨?_, fun i d e => ?_, fun i o e => (no e).elim, fun i j o o' p e => (no e).elim⟩, so, Step.refl _ _ _, fun i o p e => (no e).elim, fun a o e => (nomatch e), fun n a e => (nomatch e)⟩
  · unfold DL.ini L2.start
    simp [r.length]
  · obtain ⟨d', e1, e2⟩ := ini_get e
    cases e1
    obtain ⟨v, e3, q⟩ := r.get e2
    refine ⟨v, ?_, q⟩
    unfold L2.start
    have hi : i < vs.length := (List.getElem?_eq_some_iff.mp e3).1
    rw [List.getElem?_append_left (by simpa using hi), List.getElem?_map, e3]
    rfl

/-- a def of the text: where it stands, what it does -/
def OkD (P : Program) (w : World) (K : PySem.W.Frag) (mg : PySem.Str → Option Value) (base : Heap) (d : He.DefD) (ps : List PySem.Str) (k : Nat) (F : Fn) : Prop :=
  ∃ (f : Addr) (fd : FuncData), mg d.name = some (.ref f) ∧ FunD K d.name d.qual d.params d.body d.scope [] [] f fd ∧ FnG P w K mg base k f fd ps (spD K ps.length F)
section
variable {P : Program} {w : World} {K : PySem.W.Frag} {mg : PySem.Str → Option Value} {base : Heap}
theorem OkD.mk {d : He.DefD} {f : Addr} {fd : FuncData} {N ps : List PySem.Str} {k : Nat} {g : Es} (hm : mg d.name = some (.ref f)) (F : FunD K d.name d.qual d.params d.body d.scope [] [] f fd) (S : FnScope N ps d.scope)
    (hbody : ∀ (cdv : Value) (A : Around) (outer : List Env) (s : Shared) (H : Hp) (E : XK) (B : Base), Room k (cxOf (L2.CX P w) P w K mg base N d.qual d.scope f cdv A outer s H E).A → (cxOf (L2.CX P w) P w K mg base N d.qual d.scope f cdv A outer s H E).A.guards = some [] →
      DSs (cxOf (L2.CX P w) P w K mg base N d.qual d.scope f cdv A outer s H E) B (fun c e _ H' => E c e H') d.body g) : OkD P w K mg base d ps (k + 1) (fnOf N.length g) := by
  refine ⟨f, fd, hm, F, fnG_of F S (fun vs H Q E h => h.1) fun cdv A outer s H vs Q E hr hgd h => ?_⟩
  obtain ⟨_, ds, S0, Hf, μ, r, so, o⟩ := h
  refine ⟨_, hbody cdv A outer s H E ⟨H, Hf, μ, fun _ => none, []⟩ hr hgd (fun _ => none) [], DL.ini N.length ds, S0, Hf, μ, Rl.ini r so, ?_⟩
  unfold fnOf at o
  cases e : g (DL.ini N.length ds) S0 with
  | rt d' S' => rw [e] at o; exact fun v H' Hf' μ' st so' re => o v H' Hf' μ' st so' re
  | nx Γ' S' => rw [e] at o; exact fun σ' H' Hf' μ' rl => o .non H' Hf' μ' rl.st rl.so (by simp only [Rep])
  | ex C fs Γ' S' => rw [e] at o; exact fun dd fv σ' H' Hf' μ' rl hd fr => o dd fv H' Hf' μ' rl.st rl.so hd fr
  | bk Γ' S' => rw [e] at o; exact o.elim
  | ct Γ' S' => rw [e] at o; exact o.elim
  | no => rw [e] at o; exact o.elim
/-- the same def, its meaning told otherwise -/
theorem OkD.as {d : He.DefD} {ps : List PySem.Str} {k : Nat} {F G : Fn} (h : OkD P w K mg base d ps k F) (e : ∀ ds S, G ds S ≠ .no → F ds S = G ds S) : OkD P w K mg base d ps k G := by
  obtain ⟨f, fd, hm, hF, hG⟩ := h
  refine ⟨f, fd, hm, hF, ⟨fun vs H Q E z => z.1, fun A outer s H args us vs Q E hr hgd e0 hb r hs => hG.run A outer s H args us vs Q E hr hgd e0 hb r ?_⟩⟩
  obtain ⟨hl, ds, S, Hf, μ, rl, so, o⟩ := hs
  refine ⟨hl, ds, S, Hf, μ, rl, so, ?_⟩
  rw [e ds S fun z => by rw [z] at o; exact o]
  exact o
end

/-! ### calls -/
def eCall (F : Fn) (g : Ev (List D)) : Ev D := fun Γ S => (g Γ S).bind fun ds S1 => F ds S1
section
variable {X : Cx} {W : WX} {d : He.DefD} {ps : List PySem.Str} {k : Nat} {F : Fn} {e : Expr} {es : List Expr} {g : Ev (List D)} {p pos : Pos}
/-- what lies in the air behind a def's call is the context's wish -/
theorem run_okG {f : Addr} {fd : FuncData} {sp : Sp} {pins : List (Addr × Obj)} {σ : L2.St} {H : Hp} {s : Shared} {Q : VK} {us ws : List Value} {vs : List V} {kw : List (PySem.Str × Value)} (hG : FnG X.prog X.w X.K X.mg X.base k f fd ps sp) (hr : Room k X.A) (hgd : X.A.guards = some []) (tk : Takes X W)
    (hb : BindsTo s fd ⟨us, kw⟩ (ps.zip ws)) (I : Inv X pins σ H s) (r : Vals vs ws) (h : sp vs H Q (WE W σ)) : wpAny (model X.prog X.w) X.A (call (.ref f) us kw) (EP X pins σ Q) X.xe s := by
  refine wpAny_call (codeAny_mono (hG.run X.A X.stack s H ⟨us, kw⟩ ws vs Q (WE W σ) hr hgd I.env0 hb r h) fun z s' hz => ?_)
  match z, hz with
  | .error e, hz => exact passAt tk σ pins H s e s' I hz
  | .ok (.ret u), hz => exact I.after hz
theorem tE_call {K : PySem.W.Frag} {n : Nat} (hn : ∀ Γ S ds S1, g Γ S = .ok ds S1 → ds.length = n) {σ : L2.St} {H : Hp} {Q : VK} (q : tE K W (eCall F g) σ H Q) : tA K W g σ H fun vs H1 => spD K n F vs H1 Q (WE W σ) := by
  obtain ⟨Γ, S, Hf, μ, sl, so, o⟩ := q
  refine ⟨Γ, S, Hf, μ, sl, so, Out.bind sl rm_rep o fun ds S1 vs H1 Hf1 μ1 e s1 sl1 so1 r1 o1 => ⟨by rw [r1.length]; exact hn _ _ _ _ e, ds, S1, Hf1, μ1, r1, so1, ?_⟩⟩
  cases e : F ds S1 with
  | ok d S2 => rw [e] at o1; exact o1
  | ex C fs S2 => rw [e] at o1; exact o1
  | no => rw [e] at o1; exact o1
end
/-- how many arguments a list of arguments has -/
def ALen (g : Ev (List D)) (n : Nat) : Prop := ∀ Γ S ds S1, g Γ S = .ok ds S1 → ds.length = n
theorem ALen.nil : ALen aNil 0 := fun _ _ _ _ h => by cases h; rfl
theorem ALen.cons {f : Ev D} {g : Ev (List D)} {n : Nat} (h : ALen g n) : ALen (aCons f g) (n + 1) := fun Γ S ds S1 e => by
  unfold aCons at e
  cases e1 : f Γ S with
  | no => rw [e1] at e; cases e
  | ex C fs S2 => rw [e1] at e; cases e
  | ok d S2 =>
    rw [e1, RE.bind_ok] at e
    cases e2 : g Γ S2 with
    | no => rw [e2] at e; cases e
    | ex C fs S3 => rw [e2] at e; cases e
    | ok ds' S3 =>
      rw [e2, RE.bind_ok] at e
      cases e
      simp [h _ _ _ _ e2]
section
variable {X : Cx} {W : WX} {d : He.DefD} {ps : List PySem.Str} {k : Nat} {F : Fn} {e : Expr} {es : List Expr} {g : Ev (List D)} {p pos : Pos}
/-- the positional arguments bind -/
def BindsP (d : He.DefD) (ps : List PySem.Str) : Prop := ∀ (kV doc pm : Value) (an : Option Addr) (cdv ct : Value) (us : List Value), us.length = ps.length →
  bindArgs (PySem.W.fnOf d.name d.qual d.params d.body d.scope .none kV doc pm an cdv ct) ⟨us, []⟩ = pure (ps.zip us)
theorem de_call (ok : OkD X.prog X.w X.K X.mg X.base d ps k F) (hb : BindsP d ps) (hr : Room k X.A) (hgd : X.A.guards = some []) (tk : Takes X W) (ha : DA X W (e :: es) g) (hl : ALen g ps.length) (hg : Gl X d.name)
    (hdb : (d.name == ("__debug__" : PySem.Str)) = false := by decide) (he : starEach (e :: es) X.env = (false, eval e X.env) :: starEach es X.env := by rfl) (hpl : (backTo pos (starEach es X.env)).any (·.1) = false := by rfl) :
    DE X W (.Call (.Name d.name p) (e :: es) [] pos) (eCall F g) := by
  obtain ⟨f, fd, hm, hF, hG⟩ := ok
  refine ⟨fun pins s σ H Q I h => wpAny_Call_Name_kw (ld_glob I hg hm ?_ hdb)⟩
  refine PySem.W.callWith_K (h₀ := X.base) I.ok.mod.kin hF.kp (thn (ha.run pos pins s σ H _ I (tE_call hl h)) fun us s1 ⟨vs, H1, I1, r, q⟩ => ⟨I1.kIn, ?_⟩) he hpl
  have lu : us.length = ps.length := by rw [← r.length]; exact hG.len _ _ _ _ q
  exact run_okG hG hr hgd tk (hF.bindsA hb s1 us lu) I1 r q
theorem de_call0 (ok : OkD X.prog X.w X.K X.mg X.base d [] k F) (hb : BindsP d []) (hr : Room k X.A) (hgd : X.A.guards = some []) (tk : Takes X W) (hg : Gl X d.name)
    (hdb : (d.name == ("__debug__" : PySem.Str)) = false := by decide) : DE X W (.Call (.Name d.name p) [] [] pos) (eCall F aNil) := by
  obtain ⟨f, fd, hm, hF, hG⟩ := ok
  refine ⟨fun pins s σ H Q I h => wpAny_Call_Name_kw (ld_glob I hg hm ?_ hdb)⟩
  obtain ⟨Γ, S, Hf, μ, sl, so, o⟩ := h
  refine PySem.W.callWith_K0 I.kIn hF.kp (run_okG (us := []) (vs := []) hG hr hgd tk (hF.bindsA hb s [] rfl) I .nil ⟨rfl, [], S, Hf, μ, RepL.nil, so, ?_⟩)
  have o' : Out X.K (RepR X.K) W σ H Hf μ (F [] S) Q := o
  cases e : F [] S with
  | ok d S2 => rw [e] at o'; exact o'
  | ex C fs S2 => rw [e] at o'; exact o'
  | no => rw [e] at o'; exact o'
/-- keywords: their values, from the left -/
abbrev DK (X : Cx) (W : WX) (kws : List Keyword) (g : Ev (List D)) : Prop := PK X kws (tA X.K W g)
theorem PK_imp {X : Cx} {e : List Keyword} {t t' : TA} (h : PK X e t) (k : ∀ σ H Q, t' σ H Q → t σ H Q) : PK X e t' := ⟨fun pos pins s σ H Q I hq => h.run pos pins s σ H Q I (k σ H Q hq)⟩
theorem dk_nil : DK X W [] aNil := PK_imp pk_nil fun σ H Q ⟨Γ, S, Hf, μ, sl, so, o⟩ => o [] H Hf μ (Step.refl _ _ _) so RepL.nil
theorem dk_cons {nm : Option PySem.Str} {kpos : Pos} {kws : List Keyword} {f : Ev D} (h : DE X W e f) (k : DK X W kws g) : DK X W (⟨nm, e, kpos⟩ :: kws) (aCons f g) :=
  PK_imp (pk_cons h k) fun σ H Q ⟨Γ, S, Hf, μ, sl, so, o⟩ => ⟨Γ, S, Hf, μ, sl, so, Out.bind sl rm_repL o fun d S1 v H1 Hf1 μ1 _ s1 sl1 so1 r1 o1 =>
    ⟨Γ, S1, Hf1, μ1, sl1, so1, Out.bind sl1 rm_repL o1 fun ds S2 vs H2 Hf2 μ2 _ s2 sl2 so2 r2 o2 => o2 (v :: vs) H2 Hf2 μ2 (Step.refl _ _ _) so2 (RepL.cons (s2.rep r1) r2)⟩⟩
/-- places: the parameter i is the is[i]-th of the written ones -/
def perm {α : Type} (is : List Nat) (xs : List α) : List α := is.filterMap fun i => xs[i]?
theorem perm_vals {vs : List V} {us : List Value} (r : Vals vs us) : ∀ is : List Nat, Vals (perm is vs) (perm is us)
  | [] => .nil
  | i :: is => by
    have ih := perm_vals r is
    unfold perm at ih ⊢
    rw [List.filterMap_cons, List.filterMap_cons]
    cases e : vs[i]? with
    | none =>
      have e2 : us[i]? = none := Vals.none_of r e
      rw [e2]
      exact ih
    | some v =>
      obtain ⟨u, e2, q⟩ := Vals.get r e
      rw [e2]
      exact .cons q ih
theorem perm_rep {K : PySem.W.Frag} {μ : List Addr} {Hf : Hp} {ds : List D} {vs : List V} (r : RepL K μ Hf ds vs) : ∀ is : List Nat, RepL K μ Hf (perm is ds) (perm is vs)
  | [] => RepL.nil
  | i :: is => by
    have ih := perm_rep r is
    unfold perm at ih ⊢
    rw [List.filterMap_cons, List.filterMap_cons]
    cases e : ds[i]? with
    | none =>
      have e2 : vs[i]? = none := by
        rw [List.getElem?_eq_none_iff] at e ⊢
        rw [r.length]; exact e
      rw [e2]
      exact ih
    | some d =>
      obtain ⟨v, e2, q⟩ := r.get e
      rw [e2]
      exact RepL.cons q ih
/-- a call by keywords alone -/
def eCallK (F : Fn) (is : List Nat) (g : Ev (List D)) : Ev D := fun Γ S => (g Γ S).bind fun ds S1 => F (perm is ds) S1
def BindsK (d : He.DefD) (ps ks : List PySem.Str) (is : List Nat) : Prop := ∀ (kV doc pm : Value) (an : Option Addr) (cdv ct : Value) (ws : List Value), ws.length = ks.length →
  (perm is ws).length = ps.length ∧ bindArgs (PySem.W.fnOf d.name d.qual d.params d.body d.scope .none kV doc pm an cdv ct) ⟨[], ks.zip ws⟩ = pure (ps.zip (perm is ws))
theorem de_callK {kws : List Keyword} {ks : List PySem.Str} (is : List Nat) (ok : OkD X.prog X.w X.K X.mg X.base d ps k F) (hb : BindsK d ps ks is) (hr : Room k X.A) (hgd : X.A.guards = some []) (tk : Takes X W) (ha : DK X W kws g) (hl : ALen g ks.length) (hg : Gl X d.name)
    (hall : (backToKw pos (keywordEach kws X.env)).all (·.1.isSome) = true := by rfl) (hks : (backToKw pos (keywordEach kws X.env)).filterMap (·.1) = ks := by rfl) (hdb : (d.name == ("__debug__" : PySem.Str)) = false := by decide)
    (hpl : ((backTo pos (starEach [] X.env)).any (·.1) || (backToKw pos (keywordEach kws X.env)).any (·.1.isNone)) = false := by rfl) :
    DE X W (.Call (.Name d.name p) [] kws pos) (eCallK F is g) := by
  obtain ⟨f, fd, hm, hF, hG⟩ := ok
  refine ⟨fun pins s σ H Q I h => wpAny_Call_Name_kw (ld_glob I hg hm ?_ hdb)⟩
  obtain ⟨Γ, S, Hf, μ, sl, so, o⟩ := h
  refine PySem.W.callWith_KW0 (h₀ := X.base) I.ok.mod.kin hF.kp hall (thn (ha.run pos pins s σ H (fun vs H1 => vs.length = ks.length ∧ spD X.K ps.length F (perm is vs) H1 Q (WE W σ)) I ?_) fun ws s2 ⟨zs, H2, I2, rz, q2⟩ => ⟨I2.kIn, ?_⟩) hpl
  · refine ⟨Γ, S, Hf, μ, sl, so, Out.bind sl rm_rep o fun ds S1 vs H1 Hf1 μ1 e s1 sl1 so1 r1 o1 => ?_⟩
    have lv : vs.length = ks.length := by rw [r1.length]; exact hl _ _ _ _ e
    refine ⟨lv, ?_, perm is ds, S1, Hf1, μ1, perm_rep r1 is, so1, ?_⟩
    · obtain ⟨us0, hus⟩ : ∃ us : List Value, Vals vs us ∧ us.length = ks.length := by
        refine ⟨vs.map fun v => match v with
          | .non => .none
          | .bl b => .bool b
          | .int i => .int i 0
          | .str x => .str x 0
          | .byt b => .bytes b 0
          | .flt b => .float b 0
          | .ref a => .ref a
          | .ty n => .type n, ?_, by rw [List.length_map]; exact lv⟩
        clear lv r1
        induction vs with
        | nil => exact .nil
        | cons v vs ih =>
          refine .cons ?_ ih
          cases v <;> first | rfl | exact ⟨_, rfl⟩
      have z := (hb .none .none .none none .none .none us0 hus.2).1
      rw [(perm_vals hus.1 is).length]
      exact z
    · cases e : F (perm is ds) S1 with
      | ok d S2 => rw [e] at o1; exact o1
      | ex C fs S2 => rw [e] at o1; exact o1
      | no => rw [e] at o1; exact o1
  · rw [hks]
    obtain ⟨lz, q3⟩ := q2
    obtain ⟨oc, od, dV, kV, doc, pm, an, cdv, ct, osl, rfl, lk, hcd, hD, hK⟩ := hF.ex
    have hd : dV = .none := by
      rcases hD with ⟨_, z⟩ | ⟨z, _⟩
      · exact z
      · exact absurd rfl z
    subst hd
    exact run_okG hG hr hgd tk (.of_eq (hb kV doc pm an cdv ct ws (by rw [← rz.length]; exact lz)).2) I2 (perm_vals rz is) q3
end
end DL
set_option Elab.async false
set_option linter.all false
set_option maxRecDepth 100000
/-! DLd: targets, what is walked, for, while, list comprehensions. -/
namespace DL
open PySem PySem.Spec PyProof.Rows L2

/-! ### targets -/
structure Tgt where
  run : D → Gm → Option Gm
  ix : List Nat
def tG (K : PySem.W.Frag) (t : Tgt) : TG := fun v σ H Q => ∃ d Γ S Hf μ, SlOk K Γ σ H Hf μ ∧ StoOk K S H Hf μ ∧ Rep K μ Hf d v ∧ match t.run d Γ with
  | some Γ' => ∀ σ', SlOk K Γ' σ' H Hf μ → (∀ (i : Nat) (o : SO) (p : Addr), Γ'[i]? = some (some (.own o)) → σ'[i]? = some (some (V.ref p)) → Γ[i]? = some (some (.own o)) ∧ σ[i]? = some (some (V.ref p))) → (∀ vs : List Nat, (∀ i ∈ t.ix, i ∈ vs) → wipe σ' vs = wipe σ vs) → Q σ' H
  | none => False
def tGs (K : PySem.W.Frag) (t : List D → Gm → Option Gm) (ix : List Nat) : TGs := fun vs σ H Q => ∃ ds Γ S Hf μ, SlOk K Γ σ H Hf μ ∧ StoOk K S H Hf μ ∧ RepL K μ Hf ds vs ∧ match t ds Γ with
  | some Γ' => ∀ σ', SlOk K Γ' σ' H Hf μ → (∀ (i : Nat) (o : SO) (p : Addr), Γ'[i]? = some (some (.own o)) → σ'[i]? = some (some (V.ref p)) → Γ[i]? = some (some (.own o)) ∧ σ[i]? = some (some (V.ref p))) → (∀ vs : List Nat, (∀ i ∈ ix, i ∈ vs) → wipe σ' vs = wipe σ vs) → Q σ' H
  | none => False
abbrev DG (X : Cx) (tg : Expr) (t : Tgt) : Prop := PG X tg (tG X.K t)
abbrev DGs (X : Cx) (tgs : List Expr) (t : List D → Gm → Option Gm) (ix : List Nat) : Prop := PGs X tgs (tGs X.K t ix)
theorem PG_imp {X : Cx} {e : Expr} {t t' : TG} (h : PG X e t) (k : ∀ v σ H Q, t' v σ H Q → t v σ H Q) : PG X e t' := ⟨fun pins s σ H v u Q I r hq => h.run pins s σ H v u Q I r (k v σ H Q hq)⟩
theorem PGs_imp {X : Cx} {e : List Expr} {t t' : TGs} (h : PGs X e t) (k : ∀ v σ H Q, t' v σ H Q → t v σ H Q) : PGs X e t' := ⟨fun pins s σ H v u Q I r hq => h.run pins s σ H v u Q I r (k v σ H Q hq)⟩
theorem PG_or {X : Cx} {e : Expr} {t t' : TG} (h : PG X e t) (h' : PG X e t') : PG X e (fun v σ H Q => t v σ H Q ∨ t' v σ H Q) :=
  ⟨fun pins s σ H v u Q I r hq => hq.elim (h.run pins s σ H v u Q I r) (h'.run pins s σ H v u Q I r)⟩
theorem wipe_set {σ : L2.St} {i : Nat} {x : Option V} : ∀ {vs : List Nat}, i ∈ vs → wipe (σ.set i x) vs = wipe σ vs
  | v :: vs, h => by
    unfold wipe
    by_cases hv : i ∈ vs
    · rw [wipe_set hv]
    · have hi : i = v := (List.mem_cons.mp h).elim id fun z => absurd z hv
      subst hi
      have go : ∀ {ws : List Nat}, i ∉ ws → wipe (σ.set i x) ws = (wipe σ ws).set i x := fun {ws} hw => by
        induction ws with
        | nil => rfl
        | cons w ws ih =>
          unfold wipe
          rw [ih fun z => hw (List.mem_cons_of_mem _ z), List.set_comm]
          exact fun z => hw (z ▸ List.mem_cons_self)
      rw [go hv, List.set_set]
def gV (i : Nat) : Tgt := ⟨fun d Γ => some (Γ.set i (some (.val d))), [i]⟩
theorem own_setV {Γ : Gm} {σ : L2.St} {i j : Nat} {d : D} {v : V} {o : SO} {p : Addr} (e1 : (Γ.set i (some (.val d)))[j]? = some (some (.own o))) (e2 : (σ.set i (some v))[j]? = some (some (V.ref p))) :
    Γ[j]? = some (some (.own o)) ∧ σ[j]? = some (some (V.ref p)) := by
  by_cases hj : i = j
  · subst hj
    by_cases hl : i < Γ.length
    · rw [List.getElem?_set_self hl] at e1
      cases e1
    · rw [List.getElem?_eq_none (by rw [List.length_set]; omega)] at e1
      cases e1
  · rw [List.getElem?_set_ne hj] at e1 e2
    exact ⟨e1, e2⟩
section
variable {X : Cx} {pos : Pos}
theorem dg_v (i : Nat) {x : PySem.Str} (hN : X.N.Nodup) (hi : X.N[i]? = some x := by rfl) (hx : Loc X.env.scope x := by first | exact Or.inl rfl | exact Or.inr rfl) (hf : X.fn x = true ∨ X.env.scope.names.lookup x = some .local := by first | exact .inl rfl | exact .inr rfl | assumption) :
    DG X (.Name x pos) (gV i) := PG_imp (pg_name hN hi hx hf) fun v σ H Q ⟨d, Γ, S, Hf, μ, sl, so, r, o⟩ => by
  have o' : ∀ σ', SlOk X.K (Γ.set i (some (.val d))) σ' H Hf μ → (∀ (j : Nat) (o : SO) (p : Addr), (Γ.set i (some (.val d)))[j]? = some (some (.own o)) → σ'[j]? = some (some (V.ref p)) → Γ[j]? = some (some (.own o)) ∧ σ[j]? = some (some (V.ref p))) →
    (∀ vs : List Nat, (∀ k ∈ [i], k ∈ vs) → wipe σ' vs = wipe σ vs) → Q σ' H := o
  exact o' _ (sl.setV i r) (fun j o p e1 e2 => own_setV e1 e2) fun vs h => wipe_set (h i (by simp))
def gNilR : List D → Gm → Option Gm := fun ds Γ => match ds with
  | [] => some Γ
  | _ => none
def gConsR (t : Tgt) (u : List D → Gm → Option Gm) : List D → Gm → Option Gm := fun ds Γ => match ds with
  | d :: r => match t.run d Γ with
    | some Γ' => u r Γ'
    | none => none
  | [] => none
theorem dgs_nil : DGs X [] gNilR [] := PGs_imp pgs_nil fun vs σ H Q ⟨ds, Γ, S, Hf, μ, sl, so, r, o⟩ => by
  cases ds with
  | nil =>
    simp only [RepL] at r
    exact ⟨r, o σ sl (fun i o p e1 e2 => ⟨e1, e2⟩) fun _ _ => rfl⟩
  | cons d ds => exact o.elim
theorem dgs_cons {e : Expr} {es : List Expr} {t : Tgt} {u : List D → Gm → Option Gm} {ix : List Nat} (h : DG X e t) (k : DGs X es u ix)
    (hs : (assignEach (e :: es) X.env).map (·.2) = assign e X.env :: (assignEach es X.env).map (·.2) := by rfl) : DGs X (e :: es) (gConsR t u) (t.ix ++ ix) :=
  PGs_imp (pgs_cons h k hs) fun vs σ H Q ⟨ds, Γ, S, Hf, μ, sl, so, r, o⟩ => by
    cases ds with
    | nil => exact o.elim
    | cons d ds =>
      simp only [RepL] at r
      obtain ⟨x, xs, rfl, q, r⟩ := r
      refine ⟨x, xs, rfl, d, Γ, S, Hf, μ, sl, so, q, ?_⟩
      unfold gConsR at o
      cases e1 : t.run d Γ with
      | none => simp only [e1] at o
      | some Γ1 =>
        simp only [e1] at o
        intro σ1 sl1 ow1 wp1
        refine ⟨ds, Γ1, S, Hf, μ, sl1, so, r, ?_⟩
        cases e2 : u ds Γ1 with
        | none => simp only [e2] at o
        | some Γ2 =>
          simp only [e2] at o
          intro σ2 sl2 ow2 wp2
          exact o σ2 sl2 (fun i oo p z1 z2 => let ⟨y1, y2⟩ := ow2 i oo p z1 z2; ow1 i oo p y1 y2) fun ws hw => (wp2 ws fun i hi => hw i (List.mem_append_right _ hi)).trans (wp1 ws fun i hi => hw i (List.mem_append_left _ hi))
/-- several names, out of a tuple or a list -/
def gT (n : Nat) (u : List D → Gm → Option Gm) (ix : List Nat) : Tgt := ⟨fun d Γ => match d with
  | .tup ds => if ds.length = n then u ds Γ else none
  | .lst ds => if ds.length = n then u ds Γ else none
  | _ => none, ix⟩
theorem dg_t {es : List Expr} {kk : Nat} {u : List D → Gm → Option Gm} {ix : List Nat} {n : Nat} (hc : X.calm = true) (h : DGs X es u ix)
    (hn : (assignEach es X.env).length = n := by rfl) (hst : (assignEach es X.env).findIdx? (·.1) = none := by rfl) : DG X (.Tuple es kk pos) (gT n u ix) :=
  PG_imp (PG_or (pg_tup hc h hn hst) (pg_lst hc h hn hst)) fun v σ H Q ⟨d, Γ, S, Hf, μ, sl, so, r, o⟩ => by
    cases d with
    | tup ds =>
      simp only [Rep] at r
      obtain ⟨a, xs, e, q, z, rl⟩ := r
      by_cases hl : ds.length = n
      · refine .inl ⟨a, xs, e, so.sub.tp q, by rw [rl.length]; exact hl, ds, Γ, S, Hf, μ, sl, so, rl, ?_⟩
        simp only [gT, if_pos hl] at o
        exact o
      · simp only [gT, if_neg hl] at o
    | lst ds =>
      simp only [Rep] at r
      obtain ⟨a, xs, e, q, z, rl⟩ := r
      by_cases hl : ds.length = n
      · refine .inr ⟨a, xs, e, SqL.of (so.sub _ _ q), by rw [rl.length]; exact hl, ds, Γ, S, Hf, μ, sl, so, rl, ?_⟩
        simp only [gT, if_pos hl] at o
        exact o
      · simp only [gT, if_neg hl] at o
    | _ => exact o.elim
end

/-! ### what is walked -/
structure WkI (K : PySem.W.Frag) (J : It) (G : Hp → Hp → List Addr → Prop) (ds : List D) : Prop where
  goes : ∀ i S' H' Hf' μ', i < ds.length → G H' Hf' μ' → StoOk K S' H' Hf' μ' → J.go i H'
  yields : ∀ i S' H' Hf' μ' x H2, i < ds.length → G H' Hf' μ' → StoOk K S' H' Hf' μ' → J.yld i H' x H2 → ∃ d Hf2, ds[i]? = some d ∧ Step H' Hf' μ' H2 Hf2 μ' ∧ StoOk K S' H2 Hf2 μ' ∧ Rep K μ' Hf2 d x
  stops : ∀ S' H' Hf' μ', G H' Hf' μ' → StoOk K S' H' Hf' μ' → J.stop ds.length H'
theorem WkI.imp {K : PySem.W.Frag} {J : It} {G G' : Hp → Hp → List Addr → Prop} {ds : List D} (w : WkI K J G ds) (h : ∀ a b c, G' a b c → G a b c) : WkI K J G' ds :=
  ⟨fun i S' H' Hf' μ' hi g => w.goes i S' H' Hf' μ' hi (h _ _ _ g), fun i S' H' Hf' μ' x H2 hi g => w.yields i S' H' Hf' μ' x H2 hi (h _ _ _ g), fun S' H' Hf' μ' g => w.stops S' H' Hf' μ' (h _ _ _ g)⟩
/-- what stays frozen -/
def GF (Hf : Hp) (μ : List Addr) : Hp → Hp → List Addr → Prop := fun _ Hf2 μ2 => Sub Hf Hf2 ∧ Pre μ μ2
def GS (H Hf : Hp) (μ : List Addr) : Hp → Hp → List Addr → Prop := fun H2 Hf2 μ2 => Step H Hf μ H2 Hf2 μ2
theorem GS.gf {H Hf H2 Hf2 : Hp} {μ μ2 : List Addr} (h : GS H Hf μ H2 Hf2 μ2) : GF Hf μ H2 Hf2 μ2 := ⟨h.fz, h.mu⟩
def ItF (K : PySem.W.Frag) : RR (List D) It := fun _ _ Hf' μ' ds J => WkI K J (GF Hf' μ') ds
def ItS (K : PySem.W.Frag) : RR (List D) It := fun _ H' Hf' μ' ds J => WkI K J (GS H' Hf' μ') ds
theorem rm_itF {K : PySem.W.Frag} : RMono (ItF K) := fun _ _ _ _ _ _ _ _ h => h
theorem rm_itS {K : PySem.W.Frag} : RMono (ItS K) := fun _ _ _ _ _ _ _ _ h => h
def tIF (K : PySem.W.Frag) (W : WX) (f : Ev (List D)) : TI := fun σ H R => ∃ Γ S Hf μ, SlOk K Γ σ H Hf μ ∧ StoOk K S H Hf μ ∧ Out K (ItF K) W σ H Hf μ (f Γ S) R
def tIS (K : PySem.W.Frag) (W : WX) (f : Ev (List D)) : TI := fun σ H R => ∃ Γ S Hf μ, SlOk K Γ σ H Hf μ ∧ StoOk K S H Hf μ ∧ Out K (ItS K) W σ H Hf μ (f Γ S) R
/-- walked, frozen; walked while nothing changes -/
abbrev DI (X : Cx) (W : WX) (tg iter : Expr) (f : Ev (List D)) : Prop := PI X tg iter (tIF X.K W f)
abbrev DJ (X : Cx) (W : WX) (tg iter : Expr) (f : Ev (List D)) : Prop := PI X tg iter (tIS X.K W f)
theorem PI_imp {X : Cx} {tg e : Expr} {t t' : TI} (h : PI X tg e t) (k : ∀ σ H R, t' σ H R → t σ H R) : PI X tg e t' := ⟨fun pins s σ H R I hq => h.run pins s σ H R I (k σ H R hq)⟩
theorem PI_or {X : Cx} {tg e : Expr} {t t' : TI} (h : PI X tg e t) (h' : PI X tg e t') : PI X tg e (fun σ H R => t σ H R ∨ t' σ H R) :=
  ⟨fun pins s σ H R I hq => hq.elim (h.run pins s σ H R I) (h'.run pins s σ H R I)⟩
theorem dj_of {X : Cx} {W : WX} {tg e : Expr} {f : Ev (List D)} (h : DI X W tg e f) : DJ X W tg e f :=
  PI_imp h fun σ H R ⟨Γ, S, Hf, μ, sl, so, o⟩ => ⟨Γ, S, Hf, μ, sl, so, by
    cases e : f Γ S with
    | no => rw [e] at o; exact o
    | ex C fs S1 => rw [e] at o; exact o
    | ok d S1 =>
      rw [e] at o
      exact fun v H1 Hf1 μ1 s1 so1 r1 => o v H1 Hf1 μ1 s1 so1 (r1.imp fun a b c g => g.gf)⟩
section
variable {X : Cx} {W : WX} {tg e e2 a b : Expr} {f : Ev D} {g : Ev (List D)} {p pos : Pos}
theorem wk_list {K : PySem.W.Frag} {Gd : Hp → Hp → List Addr → Prop} {l : Addr} {xs : List V} {ds : List D} (h : ∀ S' H' Hf' μ', Gd H' Hf' μ' → StoOk K S' H' Hf' μ' → SqL K H' l xs ∧ RepL K μ' Hf' ds xs) (hl : xs.length = ds.length) : WkI K (Itl K l) Gd ds where
  goes := fun i S' H' Hf' μ' hi g so => ⟨xs, xs[i]'(by omega), (h S' H' Hf' μ' g so).1, by simp⟩
  yields := fun i S' H' Hf' μ' x H2 hi g so y => by
    obtain ⟨rfl, y⟩ := y
    obtain ⟨h1, h2⟩ := h S' _ Hf' μ' g so
    obtain ⟨d, e, r⟩ := h2.getV (y xs h1)
    exact ⟨d, Hf', e, Step.refl _ _ _, so, r⟩
  stops := fun S' H' Hf' μ' g so => ⟨xs, (h S' H' Hf' μ' g so).1, by omega⟩
theorem wk_tup {K : PySem.W.Frag} {Gd : Hp → Hp → List Addr → Prop} {l : Addr} {xs : List V} {ds : List D} (h : ∀ S' H' Hf' μ', Gd H' Hf' μ' → StoOk K S' H' Hf' μ' → SqT K H' l xs ∧ RepL K μ' Hf' ds xs) (hl : xs.length = ds.length) : WkI K (Itt K l) Gd ds where
  goes := fun i S' H' Hf' μ' hi g so => ⟨xs, xs[i]'(by omega), (h S' H' Hf' μ' g so).1, by simp⟩
  yields := fun i S' H' Hf' μ' x H2 hi g so y => by
    obtain ⟨rfl, y⟩ := y
    obtain ⟨h1, h2⟩ := h S' _ Hf' μ' g so
    obtain ⟨d, e, r⟩ := h2.getV (y xs h1)
    exact ⟨d, Hf', e, Step.refl _ _ _, so, r⟩
  stops := fun S' H' Hf' μ' g so => ⟨xs, (h S' H' Hf' μ' g so).1, by omega⟩
/-- a list, a tuple, told -/
def iSeq (f : Ev D) : Ev (List D) := fun Γ S => (f Γ S).bind fun d S' => match d with
  | .lst ds => .ok ds S'
  | .kst ds => .ok ds S'
  | .tup ds => .ok ds S'
  | _ => .no
theorem di_seq (h : DE X W e f) : DI X W tg e (iSeq f) :=
  PI_imp (PI_or (pi_list h) (pi_tup h)) fun σ H R ⟨Γ, S, Hf, μ, sl, so, o⟩ => by
    cases e1 : f Γ S with
    | no => simp only [iSeq, e1] at o; exact o.elim
    | ex C fs S1 =>
      simp only [iSeq, e1] at o
      exact .inl ⟨Γ, S, Hf, μ, sl, so, by rw [e1]; exact o⟩
    | ok d S1 =>
      simp only [iSeq, e1, RE.bind_ok] at o
      cases d with
      | lst ds =>
        refine .inl ⟨Γ, S, Hf, μ, sl, so, by
          rw [e1]
          intro v H1 Hf1 μ1 s1 so1 r1
          simp only [Rep] at r1
          obtain ⟨a, xs, rfl, q, z, rl⟩ := r1
          exact ⟨a, rfl, ⟨xs, SqL.of (so1.sub _ _ q)⟩, o _ H1 Hf1 μ1 s1 so1 (wk_list (fun S' H' Hf' μ' g so' => ⟨SqL.of (so'.sub _ _ (g.1 _ _ q)), RepL.mono g.1 g.2 _ _ rl⟩) rl.length)⟩⟩
      | kst ds =>
        refine .inl ⟨Γ, S, Hf, μ, sl, so, by
          rw [e1]
          intro v H1 Hf1 μ1 s1 so1 r1
          simp only [Rep] at r1
          obtain ⟨a, xs, rfl, q, z, rl⟩ := r1
          exact ⟨a, rfl, ⟨xs, so1.sub.sl q⟩, o _ H1 Hf1 μ1 s1 so1 (wk_list (fun S' H' Hf' μ' g so' => ⟨so'.sub.sl (g.1.sl q), RepL.mono g.1 g.2 _ _ rl⟩) rl.length)⟩⟩
      | tup ds =>
        refine .inr ⟨Γ, S, Hf, μ, sl, so, by
          rw [e1]
          intro v H1 Hf1 μ1 s1 so1 r1
          simp only [Rep] at r1
          obtain ⟨a, xs, rfl, q, z, rl⟩ := r1
          exact ⟨a, rfl, ⟨xs, so1.sub.tp q⟩, o _ H1 Hf1 μ1 s1 so1 (wk_tup (fun S' H' Hf' μ' g so' => ⟨so'.sub.tp (g.1 _ _ q), RepL.mono g.1 g.2 _ _ rl⟩) rl.length)⟩⟩
      | _ => exact o.elim
/-- a text, sign by sign -/
def iStr (f : Ev D) : Ev (List D) := fun Γ S => (f Γ S).bind fun d S' => match d with
  | .str z => .ok (z.cps.toList.map fun c => .str ⟨#[c]⟩) S'
  | _ => .no
theorem di_str (h : DE X W e f) : DI X W tg e (DL.iStr f) :=
  PI_imp (pi_str h) fun σ H R ⟨Γ, S, Hf, μ, sl, so, o⟩ => ⟨Γ, S, Hf, μ, sl, so, Out.bind sl rm_itF o fun d S1 v H1 Hf1 μ1 _ s1 sl1 so1 r1 o1 => by
    cases d with
    | str z =>
      obtain rfl : v = .str z := by simpa only [Rep] using r1
      have hz : (z.cps.toList.map fun c => D.str ⟨#[c]⟩).length = z.cps.size := by simp
      refine ⟨z, rfl, o1 _ H1 Hf1 μ1 (Step.refl _ _ _) so1 ⟨fun i S' H' Hf' μ' hi g so' => by rw [hz] at hi; exact hi, fun i S' H' Hf' μ' x H2 hi g so' y => ?_, fun S' H' Hf' μ' g so' => Nat.le_of_eq hz.symm⟩⟩
      obtain ⟨rfl, c, e, rfl⟩ := y
      exact ⟨.str ⟨#[c]⟩, Hf', by simp [e], Step.refl _ _ _, so', by simp only [Rep]⟩
    | _ => exact o1.elim⟩
/-- range(n), range(m, n) -/
def rngD (lo : Int) (n : Nat) : List D := (List.range n).map fun i => .int (lo + (i : Nat))
theorem wk_range {K : PySem.W.Frag} {Gd : Hp → Hp → List Addr → Prop} {lo : Int} {n : Nat} : WkI K (Itr lo n) Gd (rngD lo n) where
  goes := fun i S' H' Hf' μ' hi g so => by
    have hi' : i < n := by simpa [rngD] using hi
    exact hi'
  yields := fun i S' H' Hf' μ' x H2 hi g so y => by
    obtain ⟨rfl, rfl⟩ := y
    have hi' : i < n := by simpa [rngD] using hi
    exact ⟨.int (lo + (i : Nat)), Hf', by simp [rngD, hi'], Step.refl _ _ _, so, by simp only [Rep]⟩
  stops := fun S' H' Hf' μ' g so => by
    show n ≤ (rngD lo n).length
    simp [rngD]
def rangeD : List D → Option (List D)
  | [.int n] => if -(2 ^ 62) ≤ n ∧ n < 2 ^ 62 then some (rngD 0 n.toNat) else none
  | [.int m, .int n] => if (-(2 ^ 62) ≤ m ∧ m < 2 ^ 62) ∧ (-(2 ^ 62) ≤ n ∧ n < 2 ^ 62) then some (rngD m (n - m).toNat) else none
  | _ => none
theorem rangeD_cases {ds zs : List D} (h : rangeD ds = some zs) : (∃ n, ds = [.int n] ∧ (-(2 ^ 62) ≤ n ∧ n < 2 ^ 62) ∧ zs = rngD 0 n.toNat) ∨
    ∃ m n, ds = [.int m, .int n] ∧ ((-(2 ^ 62) ≤ m ∧ m < 2 ^ 62) ∧ (-(2 ^ 62) ≤ n ∧ n < 2 ^ 62)) ∧ zs = rngD m (n - m).toNat := by
  unfold rangeD at h
  split at h
  · rename_i n
    split at h
    · rename_i hn
      exact .inl ⟨n, rfl, hn, (Option.some.inj h).symm⟩
    · cases h
  · rename_i m n
    split at h
    · rename_i hn
      exact .inr ⟨m, n, rfl, hn, (Option.some.inj h).symm⟩
    · cases h
  · cases h
/-- a list of values, made into another by f -/
def iVia (f : List D → Option (List D)) (g : Ev (List D)) : Ev (List D) := fun Γ S => (g Γ S).bind fun ds S' => match f ds with
  | some zs => .ok zs S'
  | none => .no
abbrev iRange (g : Ev (List D)) : Ev (List D) := iVia rangeD g
theorem RepL.one {K : PySem.W.Frag} {μ : List Addr} {Hf : Hp} {d : D} {vs : List V} (r : RepL K μ Hf [d] vs) : ∃ v, vs = [v] ∧ Rep K μ Hf d v := by
  simp only [RepL] at r
  obtain ⟨x, xs, rfl, q, rfl⟩ := r
  exact ⟨x, rfl, q⟩
theorem RepL.two {K : PySem.W.Frag} {μ : List Addr} {Hf : Hp} {d d' : D} {vs : List V} (r : RepL K μ Hf [d, d'] vs) : ∃ v v', vs = [v, v'] ∧ Rep K μ Hf d v ∧ Rep K μ Hf d' v' := by
  simp only [RepL] at r
  obtain ⟨x, xs, rfl, q, y, ys, rfl, q', rfl⟩ := r
  exact ⟨x, y, rfl, q, q'⟩
theorem di_range1 (ha : DA X W [a] g) (hl : ALen g 1) (hg : Gl X "range") (hm : X.mg "range" = none) (hs : starEach [a] X.env = [(false, eval a X.env)] := by rfl) : DI X W tg (.Call (.Name "range" p) [a] [] pos) (iRange g) :=
  PI_imp (pi_range1 hg hm ha hs) fun σ H R ⟨Γ, S, Hf, μ, sl, so, o⟩ => ⟨Γ, S, Hf, μ, sl, so, Out.bind sl rm_itF o fun ds S1 vs H1 Hf1 μ1 e s1 sl1 so1 r1 o1 => by
    have l1 := hl _ _ _ _ e
    cases e2 : rangeD ds with
    | none => rw [e2] at o1; exact o1.elim
    | some zs =>
      rw [e2] at o1
      rcases rangeD_cases e2 with ⟨n, rfl, hn, rfl⟩ | ⟨m, n, rfl, _⟩
      · obtain ⟨v, rfl, q⟩ := r1.one
        obtain rfl : v = .int n := by simpa only [Rep] using q
        exact ⟨n, rfl, hn.1, hn.2, o1 _ H1 Hf1 μ1 (Step.refl _ _ _) so1 wk_range⟩
      · simp at l1⟩
theorem di_range2 (ha : DA X W [a, b] g) (hl : ALen g 2) (hg : Gl X "range") (hm : X.mg "range" = none) (hs : starEach [a, b] X.env = [(false, eval a X.env), (false, eval b X.env)] := by rfl) (hs2 : starEach [b] X.env = [(false, eval b X.env)] := by rfl) :
    DI X W tg (.Call (.Name "range" p) [a, b] [] pos) (iRange g) :=
  PI_imp (pi_range2 hg hm ha hs hs2) fun σ H R ⟨Γ, S, Hf, μ, sl, so, o⟩ => ⟨Γ, S, Hf, μ, sl, so, Out.bind sl rm_itF o fun ds S1 vs H1 Hf1 μ1 e s1 sl1 so1 r1 o1 => by
    have l1 := hl _ _ _ _ e
    cases e2 : rangeD ds with
    | none => rw [e2] at o1; exact o1.elim
    | some zs =>
      rw [e2] at o1
      rcases rangeD_cases e2 with ⟨n, rfl, _⟩ | ⟨m, n, rfl, hn, rfl⟩
      · simp at l1
      · obtain ⟨v, v', rfl, q, q'⟩ := r1.two
        obtain rfl : v = .int m := by simpa only [Rep] using q
        obtain rfl : v' = .int n := by simpa only [Rep] using q'
        exact ⟨m, n, rfl, ⟨hn.1.1, hn.1.2, hn.2.1, hn.2.2⟩, o1 _ H1 Hf1 μ1 (Step.refl _ _ _) so1 wk_range⟩⟩
/-- a new pair, frozen -/
theorem pair_new {K : PySem.W.Frag} {S' : Store} {H' Hf' : Hp} {μ' : List Addr} {T : Addr} {x y : V} {dx dy : D} (so : StoOk K S' H' Hf' μ') (hT : H' T = none) (rx : Rep K μ' Hf' dx x) (ry : Rep K μ' Hf' dy y) :
    ∃ Hf2, Step H' Hf' μ' (upd H' T (.tup [x, y])) Hf2 μ' ∧ StoOk K S' (upd H' T (.tup [x, y])) Hf2 μ' ∧ Rep K μ' Hf2 (.tup [dx, dy]) (.ref T) := by
  obtain ⟨st, so2⟩ := Step.lay (u := .tup [x, y]) so hT
  refine ⟨_, st, so2, ?_⟩
  simp only [Rep]
  exact ⟨T, [x, y], rfl, upd_same, by show 2 ≤ sizeLine; decide, RepL.cons (st.rep rx) (RepL.cons (st.rep ry) RepL.nil)⟩
def zips (xs ys : List D) : List D := List.zipWith (fun x y => .tup [x, y]) xs ys
def seqOf : D → Option (List D)
  | .lst ds => some ds
  | .kst ds => some ds
  | .tup ds => some ds
  | _ => none
/-- zip of two lists or two tuples -/
def zipD : List D → Option (List D)
  | [.lst xs, .lst ys] => some (zips xs ys)
  | [.tup xs, .tup ys] => some (zips xs ys)
  | _ => none
theorem zipD_cases {ds zs : List D} (h : zipD ds = some zs) : (∃ xs ys, ds = [.lst xs, .lst ys] ∧ zs = zips xs ys) ∨ ∃ xs ys, ds = [.tup xs, .tup ys] ∧ zs = zips xs ys := by
  unfold zipD at h
  split at h
  · rename_i xs ys
    exact .inl ⟨xs, ys, rfl, (Option.some.inj h).symm⟩
  · rename_i xs ys
    exact .inr ⟨xs, ys, rfl, (Option.some.inj h).symm⟩
  · cases h
theorem zips_get {xs ys : List D} {i : Nat} {x y : D} (h1 : xs[i]? = some x) (h2 : ys[i]? = some y) : (zips xs ys)[i]? = some (.tup [x, y]) := by
  unfold zips
  rw [List.getElem?_zipWith, h1, h2]
theorem zips_length (xs ys : List D) : (zips xs ys).length = min xs.length ys.length := by
  unfold zips
  rw [List.length_zipWith]
theorem wk_zip {K : PySem.W.Frag} {Gd : Hp → Hp → List Addr → Prop} {a b : Addr} {xs ys : List V} {ds es : List D} {J : It}
    (hJ : ∀ H, (SqL K H a xs ∧ SqL K H b ys ∧ J = Itz K a b) ∨ (SqT K H a xs ∧ SqT K H b ys ∧ J = RZ.ItzT K a b) → (∀ i, i < xs.length → i < ys.length → J.go i H) ∧
      (∀ i v H', J.yld i H v H' → ∃ T x y, v = .ref T ∧ H T = none ∧ H' = upd H T (.tup [x, y]) ∧ xs[i]? = some x ∧ ys[i]? = some y) ∧ (∀ i, (xs.length ≤ i ∨ ys.length ≤ i) → J.stop i H))
    (h : ∀ S' H' Hf' μ', Gd H' Hf' μ' → StoOk K S' H' Hf' μ' → ((SqL K H' a xs ∧ SqL K H' b ys ∧ J = Itz K a b) ∨ (SqT K H' a xs ∧ SqT K H' b ys ∧ J = RZ.ItzT K a b)) ∧ RepL K μ' Hf' ds xs ∧ RepL K μ' Hf' es ys)
    (hl : xs.length = ds.length) (hl2 : ys.length = es.length) : WkI K J Gd (zips ds es) where
  goes := fun i S' H' Hf' μ' hi g so => by
    rw [zips_length] at hi
    exact (hJ H' (h S' H' Hf' μ' g so).1).1 i (by omega) (by omega)
  yields := fun i S' H' Hf' μ' v H2 hi g so y => by
    obtain ⟨h1, r1, r2⟩ := h S' H' Hf' μ' g so
    obtain ⟨T, x, z, rfl, hT, rfl, ex, ez⟩ := (hJ H' h1).2.1 i v H2 y
    obtain ⟨dx, e1, q1⟩ := r1.getV ex
    obtain ⟨dz, e2, q2⟩ := r2.getV ez
    obtain ⟨Hf2, st, so2, rp⟩ := pair_new so hT q1 q2
    exact ⟨_, Hf2, zips_get e1 e2, st, so2, rp⟩
  stops := fun S' H' Hf' μ' g so => by
    rw [zips_length]
    exact (hJ H' (h S' H' Hf' μ' g so).1).2.2 _ (by omega)
theorem itz_ok {K : PySem.W.Frag} {a b : Addr} {xs ys : List V} {J : It} (H : Hp) (h : (SqL K H a xs ∧ SqL K H b ys ∧ J = Itz K a b) ∨ (SqT K H a xs ∧ SqT K H b ys ∧ J = RZ.ItzT K a b)) : (∀ i, i < xs.length → i < ys.length → J.go i H) ∧
      (∀ i v H', J.yld i H v H' → ∃ T x y, v = .ref T ∧ H T = none ∧ H' = upd H T (.tup [x, y]) ∧ xs[i]? = some x ∧ ys[i]? = some y) ∧ (∀ i, (xs.length ≤ i ∨ ys.length ≤ i) → J.stop i H) := by
  rcases h with ⟨h1, h2, rfl⟩ | ⟨h1, h2, rfl⟩
  · exact ⟨fun i k1 k2 => ⟨xs, ys, xs[i], ys[i], h1, h2, by simp, by simp⟩, fun i v H' ⟨T, x, y, e, n, u, e1, e2⟩ => ⟨T, x, y, e, n, u, e1 xs h1, e2 ys h2⟩, fun i k => ⟨xs, ys, h1, h2, k⟩⟩
  · exact ⟨fun i k1 k2 => ⟨xs, ys, xs[i], ys[i], h1, h2, by simp, by simp⟩, fun i v H' ⟨T, x, y, e, n, u, e1, e2⟩ => ⟨T, x, y, e, n, u, e1 xs h1, e2 ys h2⟩, fun i k => ⟨xs, ys, h1, h2, k⟩⟩
theorem di_zip {elts : List Expr} {kk : Nat} {tpos : Pos} (ha : DA X W [e, e2] g) (hg : Gl X "zip") (hm : X.mg "zip" = none)
    (hs : starEach [e, e2] X.env = (false, eval e X.env) :: starEach [e2] X.env := by rfl) (hpl : (backTo pos (starEach [e2] X.env)).any (·.1) = false := by rfl) : DI X W (.Tuple elts kk tpos) (.Call (.Name "zip" p) [e, e2] [] pos) (iVia zipD g) :=
  PI_imp (RZ.pi_zipA hg hm ha hs hpl) fun σ H R ⟨Γ, S, Hf, μ, sl, so, o⟩ => ⟨Γ, S, Hf, μ, sl, so, Out.bind sl rm_itF o fun ds S1 vs H1 Hf1 μ1 _ s1 sl1 so1 r1 o1 => by
    cases e2 : zipD ds with
    | none => rw [e2] at o1; exact o1.elim
    | some zs =>
      rw [e2] at o1
      rcases zipD_cases e2 with ⟨xs, ys, rfl, rfl⟩ | ⟨xs, ys, rfl, rfl⟩
      · obtain ⟨v, v', rfl, q, q'⟩ := r1.two
        simp only [Rep] at q q'
        obtain ⟨a, us, rfl, qa, z, rl⟩ := q
        obtain ⟨b, ws, rfl, qb, z', rl'⟩ := q'
        exact ⟨a, b, us, ws, rfl, .inl ⟨SqL.of (so1.sub _ _ qa), SqL.of (so1.sub _ _ qb), o1 _ H1 Hf1 μ1 (Step.refl _ _ _) so1 (wk_zip (fun H h => itz_ok H h) (fun S' H' Hf' μ' g so' => ⟨.inl ⟨SqL.of (so'.sub _ _ (g.1 _ _ qa)), SqL.of (so'.sub _ _ (g.1 _ _ qb)), rfl⟩, RepL.mono g.1 g.2 _ _ rl, RepL.mono g.1 g.2 _ _ rl'⟩) rl.length rl'.length)⟩⟩
      · obtain ⟨v, v', rfl, q, q'⟩ := r1.two
        simp only [Rep] at q q'
        obtain ⟨a, us, rfl, qa, z, rl⟩ := q
        obtain ⟨b, ws, rfl, qb, z', rl'⟩ := q'
        exact ⟨a, b, us, ws, rfl, .inr ⟨so1.sub.tp qa, so1.sub.tp qb, o1 _ H1 Hf1 μ1 (Step.refl _ _ _) so1 (wk_zip (fun H h => itz_ok H h) (fun S' H' Hf' μ' g so' => ⟨.inr ⟨so'.sub.tp (g.1 _ _ qa), so'.sub.tp (g.1 _ _ qb), rfl⟩, RepL.mono g.1 g.2 _ _ rl, RepL.mono g.1 g.2 _ _ rl'⟩) rl.length rl'.length)⟩⟩⟩
end
/-! ### enumerate of a tuple -/
def ItE (K : PySem.W.Frag) (a : Addr) : It :=
  ⟨fun i H => ∃ (xs : List V) (x : V), SqT K H a xs ∧ xs[i]? = some x, fun i H v H' => ∃ T x, v = .ref T ∧ H T = none ∧ H' = upd H T (.tup [.int (i : Nat), x]) ∧ ∀ xs, SqT K H a xs → xs[i]? = some x, fun i H => ∃ xs : List V, SqT K H a xs ∧ xs.length = i⟩
theorem turn_enumT {P : Program} {w : World} {K : PySem.W.Frag} {elts : List Expr} {kk : Nat} {tpos : Pos} (a e it : Addr) :
    Turn P w K (.Tuple elts kk tpos) (ItE K a) [e, it] e (fun i h => (∃ old, IsEnum h e it ((i : Nat) : Int) old) ∧ h.IsTupleIter it a i ∧ e ≠ it) where
  mem := by simp
  obj := fun i h st b hb => by
    obtain ⟨⟨old, he⟩, ⟨o, ho, hc, hd⟩, _⟩ := st
    rcases (by simpa using hb : b = e ∨ b = it) with rfl | rfl
    · exact ⟨_, he, fun v q => nomatch q⟩
    · exact ⟨o, ho, fun v q => by rw [hd] at q; cases q⟩
  keep := fun i h h' st k => ⟨st.1.elim fun old he => ⟨old, k e (by simp) _ he⟩, st.2.1.at fun o q => k it (by simp) o q, st.2.2⟩
  item := by
    intro X hP hw hK hc i pins s σ H E I hf st hg
    subst hP hw hK
    obtain ⟨⟨old, he⟩, hit, hne⟩ := st
    obtain ⟨xs, x, hq, hx⟩ := hg
    obtain ⟨its, rv, p, hz⟩ := I.tuple hq
    have pt : s.heap.IsTuple a its.toArray := p
    obtain ⟨u, hu, ru⟩ := rv.get hx
    have lte : e < s.heap.objs.size := Heap.lt_size he
    have lti : it < s.heap.objs.size := by obtain ⟨_, q, _⟩ := hit; exact Heap.lt_size q
    have ait : a ≠ it := fun z => by
      subst z
      obtain ⟨o1, q1, c1, _⟩ := hit
      obtain ⟨o2, q2, c2, _⟩ := pt
      rw [q1] at q2; cases q2
      rw [c1] at c2
      have c3 : Value.type "tuple_iterator" = Value.type "tuple" := c2
      exact absurd c3 (by decide +kernel)
    have eni : e ≠ a := fun z => by
      subst z
      obtain ⟨o2, q2, c2, _⟩ := pt
      have he' := he
      unfold IsEnum at he'
      rw [he'] at q2; cases q2
      have c3 : Value.type "enumerate" = Value.type "tuple" := c2
      exact absurd c3 (by decide +kernel)
    have DR := Draws.tuple (prog := X.prog) (w := X.w) (A := X.A.in1) (I.ok.hd hc) it a ait its.toArray
    have hi : i < its.toArray.size := by
      rw [List.size_toArray]
      exact (List.getElem?_eq_some_iff.mp hu).1
    refine wpAny_pyNext_enum_itemC (Q := fun r s1 => ∃ u, r = some u ∧ _) DR he ⟨hit, pt⟩ hi hne (by simp [hne, eni]) fun v h' tk hv ho st' hT hsz hk => ?_
    obtain rfl : v = u := by
      have z : its.toArray[i]? = some v := hv
      rw [List.getElem?_toArray, hu] at z
      exact (Option.some.inj z).symm
    refine ⟨_, rfl, wpAny_letOwnedTupleGo_enum (s := { s with heap := h', toks := tk + 1 }) ho fun h2 he2 sb => ?_⟩
    have ne : s.heap.objs.size ≠ e := Nat.ne_of_gt lte
    have hT2 : h2.get? s.heap.objs.size = some { cls := .type "tuple", data := .seq #[.int i tk, v] } := (sb.2 _ ne).trans hT
    have fresh : ObjOk X.prog X.w (upd H s.heap.objs.size (.tup [.int (i : Nat), x])) h2 s.heap.objs.size (.tup [.int (i : Nat), x]) :=
      ⟨by show 2 ≤ sizeLine; decide, [.int i tk, v], .cons ⟨_, rfl⟩ (.cons ru .nil), ⟨_, hT2, rfl, _, rfl⟩⟩
    have J : Inv X pins σ (upd H s.heap.objs.size (.tup [.int (i : Nat), x])) { s with heap := h2, toks := tk + 1 } :=
      I.turnedNew (ch := [e, it]) (fun b ob hb q => (sb.2 b (fun z => hb (by simp [z]))).trans (hk b ob (fun z => hb (by simp [z])) (fun z => hb (by simp [z])) q)) hf (Nat.le_refl _) fresh
    refine ⟨.ref s.heap.objs.size, _, J, rfl, ⟨_, x, rfl, I.hok.fresh (Nat.le_refl _), rfl, fun ys hy => ?_⟩, ⟨⟨v, ?_⟩, st'.1.at fun o q => (sb.2 it (Ne.symm hne)).trans q, hne⟩, fun b hb => ?_⟩
    · rw [I.tuple_inj hy hq]; exact hx
    · rw [show ((i + 1 : Nat) : Int) = (i : Int) + 1 by omega]; exact he2
    · have lb : b < s.heap.objs.size := by
        rcases (by simpa using hb : b = e ∨ b = it) with rfl | rfl
        · exact lte
        · exact lti
      rw [upd_ne (Nat.ne_of_lt lb)]
      exact (hf b hb).1
  done := by
    intro X hP hw hK hc i pins s σ H E I hf st hg
    subst hP hw hK
    obtain ⟨⟨old, he⟩, hit, hne⟩ := st
    obtain ⟨xs, hq, hx⟩ := hg
    obtain ⟨its, rv, p, hz⟩ := I.tuple hq
    have pt : s.heap.IsTuple a its.toArray := p
    have ait : a ≠ it := fun z => by
      subst z
      obtain ⟨o1, q1, c1, _⟩ := hit
      obtain ⟨o2, q2, c2, _⟩ := pt
      rw [q1] at q2; cases q2
      rw [c1] at c2
      have c3 : Value.type "tuple_iterator" = Value.type "tuple" := c2
      exact absurd c3 (by decide +kernel)
    have DR := Draws.tuple (prog := X.prog) (w := X.w) (A := X.A.in1) (I.ok.hd hc) it a ait its.toArray
    obtain ⟨f0, f1, f2, f3, f4, f5⟩ := hf it (by simp)
    have hn : its.toArray.size = i := by rw [List.size_toArray, ← hx]; exact rv.length.symm
    exact wpAny_pyNext_enum_endD DR he (by rw [hn]; exact ⟨hit, pt⟩) fun h' eb => ⟨rfl, I.turned (t' := s.toks) (fun b o hb q => eb b o hb q) f0 f1 f3 f4 f5⟩
  self := fun A i s Q E st h => st.1.elim fun _ he => wpAny_pyIter_enum he h
set_option maxHeartbeats 1000000 in
theorem enum_one {v : Value} {o : Obj} {H : Heap → Prop} (B : Begins v o H) :
    Meets (Builtin.«enumerate.__new__» ⟨[.type "enumerate", v], []⟩) (fun _ R s => H s.heap ∧
      R (.ok (.ret (.ref (s.heap.push o).objs.size))) { s with heap := (s.heap.push o).push { cls := .type "enumerate", data := .fields #[.none, .bool false, .ref s.heap.objs.size, rawInt 0, .none, .none] } }) :=
  .of_wp fun prog w A R s hh => by
    obtain ⟨hp, g, d, tk, os⟩ := s
    have hsub := sub_enumerate
    have it1 : ∀ {A1 : Around} {E1 : Value → Shared → Prop} {Q1 : Value → Shared → Prop}, Q1 (.ref hp.objs.size) ⟨hp.push o, g, d, tk, os⟩ → wpAny (model prog w) A1 (pyIter v) Q1 E1 ⟨hp, g, d, tk, os⟩ :=
      fun z => B.iter prog w _ _ ⟨hp, g, d, tk, os⟩ _ hh.1 z
    have fin := hh.2
    wp_walk using it1
    refine wpAny_stack_any fun _ => wpAny_pure ?_
    split
    · rename_i c _ _ _ _ _
      cases (c == Value.type "enumerate") <;> (wp_walk using it1; exact ⟨_, rfl, fin⟩)
    · wp_walk using it1
      exact ⟨_, rfl, fin⟩
theorem call_enum_one {prog : Program} {w : World} {A : Around} {E : Value → Shared → Prop} {s : Shared} {v : Value} {o : Obj} {H : Heap → Prop} {Q : Value → Shared → Prop} (B : Begins v o H) (h1 : H s.heap)
    (h : ∀ h', IsEnum h' (s.heap.objs.size + 1) s.heap.objs.size 0 .none → h'.get? s.heap.objs.size = some o → (∀ b u, s.heap.get? b = some u → h'.get? b = some u) → Q (.ref (s.heap.objs.size + 1)) { s with heap := h' }) :
    wpAny (model prog w) A (call (.type "enumerate") [v]) Q E s := by
  refine callType_new F.called_enumerate (by decide) (F.typeCall_enumerate_1 _) (F.newCall_enumerate_1 _) (fun obj => F.args_object_init_2 obj _) F.entry_enumerate_new (enum_one B) ⟨h1, ?_⟩
  have sz : (s.heap.push o).objs.size = s.heap.objs.size + 1 := Heap.size_push ..
  have he : IsEnum ((s.heap.push o).push { cls := .type "enumerate", data := .fields #[.none, .bool false, .ref s.heap.objs.size, rawInt 0, .none, .none] }) (s.heap.objs.size + 1) s.heap.objs.size 0 .none := by
    rw [← sz]
    exact Heap.get?_push_size _ rfl
  refine ⟨⟨_, by rw [sz]; exact he, rfl⟩, ?_⟩
  rw [sz]
  exact h _ he (Heap.get?_push_of_some _ (Heap.get?_push_size _ B.free)) fun b u x => Heap.get?_push_of_some _ (Heap.get?_push_of_some _ x)
def iEnumT (K : PySem.W.Frag) (ta : TA) : TI := fun σ H R => ta σ H fun vs H1 => ∃ a xs, vs = [.ref a] ∧ SqT K H1 a xs ∧ R (ItE K a) H1
theorem pi_enumT {X : Cx} {e : Expr} {ta : TA} {p pos tpos : Pos} {elts : List Expr} {kk : Nat} (hg : Gl X "enumerate") (hm : X.mg "enumerate" = none) (ha : PA X [e] ta) (hs : starEach [e] X.env = [(false, eval e X.env)] := by rfl) :
    PI X (.Tuple elts kk tpos) (.Call (.Name "enumerate" p) [e] [] pos) (iEnumT X.K ta) := by
  refine ⟨fun pins s σ H R I h => Call_ (ld_blt I hg hm boot_enumerate (callWith_type1 (thn (ha.run pos pins s σ H _ I h) fun us s1 ⟨vs, H1, I1, r1, q1⟩ => ?_) hs rfl))⟩
  obtain ⟨a, xs, ex, hq, q⟩ := q1
  subst ex
  obtain ⟨u, rfl, r⟩ := Vals.one r1
  obtain rfl : u = Value.ref a := r
  obtain ⟨its, rv, pt, hz⟩ := I1.tuple hq
  refine call_enum_one (begins_tuple a its.toArray) pt fun h' he hit hk => wpAny_pyIter_enum he ?_
  have J : Inv X pins σ H1 { s1 with heap := h' } := I1.kept (t' := s1.toks) hk
  refine ⟨s1.heap.objs.size + 1, [s1.heap.objs.size + 1, s1.heap.objs.size], _, _, H1, rfl, J, turn_enumT a (s1.heap.objs.size + 1) s1.heap.objs.size, ⟨⟨.none, he⟩, ⟨_, hit, rfl, rfl⟩, Nat.succ_ne_self _⟩, fun b hb => ?_, q⟩
  have lb : s1.heap.objs.size ≤ b := by
    rcases (by simpa using hb : b = s1.heap.objs.size + 1 ∨ b = s1.heap.objs.size) with rfl | rfl
    · exact Nat.le_add_right _ _
    · exact Nat.le_refl _
  exact I1.fpOk lb (I1.hok.fresh lb)
/-- pairs of places and items -/
def enumD (ds : List D) : List D := ds.mapIdx fun i d => .tup [.int (i : Nat), d]
def enumOf : List D → Option (List D)
  | [.lst ds] => some (enumD ds)
  | [.tup ds] => some (enumD ds)
  | _ => none
theorem enumOf_cases {ds zs : List D} (h : enumOf ds = some zs) : (∃ xs, ds = [.lst xs] ∧ zs = enumD xs) ∨ ∃ xs, ds = [.tup xs] ∧ zs = enumD xs := by
  unfold enumOf at h
  split at h
  · rename_i xs
    exact .inl ⟨xs, rfl, (Option.some.inj h).symm⟩
  · rename_i xs
    exact .inr ⟨xs, rfl, (Option.some.inj h).symm⟩
  · cases h
section
variable {X : Cx} {W : WX} {tg e : Expr} {f : Ev D} {g : Ev (List D)} {p pos : Pos}
theorem wk_enum {K : PySem.W.Frag} {Gd : Hp → Hp → List Addr → Prop} {a : Addr} {xs : List V} {ds : List D} {J : It}
    (hJ : ∀ H, (SqL K H a xs ∧ J = Ite K a) ∨ (SqT K H a xs ∧ J = ItE K a) → (∀ i, i < xs.length → J.go i H) ∧ (∀ i v H', J.yld i H v H' → ∃ T x, v = .ref T ∧ H T = none ∧ H' = upd H T (.tup [.int (i : Nat), x]) ∧ xs[i]? = some x) ∧ J.stop xs.length H)
    (h : ∀ S' H' Hf' μ', Gd H' Hf' μ' → StoOk K S' H' Hf' μ' → ((SqL K H' a xs ∧ J = Ite K a) ∨ (SqT K H' a xs ∧ J = ItE K a)) ∧ RepL K μ' Hf' ds xs) (hl : xs.length = ds.length) : WkI K J Gd (enumD ds) where
  goes := fun i S' H' Hf' μ' hi g so => (hJ H' (h S' H' Hf' μ' g so).1).1 i (by rw [hl]; simpa [enumD] using hi)
  yields := fun i S' H' Hf' μ' v H2 hi g so y => by
    obtain ⟨h1, r1⟩ := h S' H' Hf' μ' g so
    obtain ⟨T, x, rfl, hT, rfl, ex⟩ := (hJ H' h1).2.1 i v H2 y
    obtain ⟨dx, e1, q1⟩ := r1.getV ex
    obtain ⟨Hf2, st, so2, rp⟩ := pair_new (dx := .int (i : Nat)) (x := .int (i : Nat)) so hT (by simp only [Rep]) q1
    exact ⟨_, Hf2, by simp [enumD, e1], st, so2, rp⟩
  stops := fun S' H' Hf' μ' g so => by
    have z := (hJ H' (h S' H' Hf' μ' g so).1).2.2
    rw [hl] at z
    simpa [enumD] using z
theorem ite_ok {K : PySem.W.Frag} {a : Addr} {xs : List V} {J : It} (H : Hp) (h : (SqL K H a xs ∧ J = Ite K a) ∨ (SqT K H a xs ∧ J = ItE K a)) : (∀ i, i < xs.length → J.go i H) ∧
    (∀ i v H', J.yld i H v H' → ∃ T x, v = .ref T ∧ H T = none ∧ H' = upd H T (.tup [.int (i : Nat), x]) ∧ xs[i]? = some x) ∧ J.stop xs.length H := by
  rcases h with ⟨h1, rfl⟩ | ⟨h1, rfl⟩
  · exact ⟨fun i k1 => ⟨xs, xs[i], h1, by simp⟩, fun i v H' ⟨T, x, e, n, u, e1⟩ => ⟨T, x, e, n, u, e1 xs h1⟩, ⟨xs, h1, Nat.le_refl _⟩⟩
  · exact ⟨fun i k1 => ⟨xs, xs[i], h1, by simp⟩, fun i v H' ⟨T, x, e, n, u, e1⟩ => ⟨T, x, e, n, u, e1 xs h1⟩, ⟨xs, h1, rfl⟩⟩
theorem di_enum {elts : List Expr} {kk : Nat} {tpos : Pos} (ha : DA X W [e] g) (hg : Gl X "enumerate") (hm : X.mg "enumerate" = none)
    (hs : starEach [e] X.env = [(false, eval e X.env)] := by rfl) : DI X W (.Tuple elts kk tpos) (.Call (.Name "enumerate" p) [e] [] pos) (iVia enumOf g) :=
  PI_imp (PI_or (pi_enum hg hm ha hs) (pi_enumT hg hm ha hs)) fun σ H R ⟨Γ, S, Hf, μ, sl, so, o⟩ => by
    cases e1 : g Γ S with
    | no => simp only [iVia, e1] at o; exact o.elim
    | ex C fs S1 =>
      simp only [iVia, e1] at o
      exact .inl ⟨Γ, S, Hf, μ, sl, so, by rw [e1]; exact o⟩
    | ok ds S1 =>
      simp only [iVia, e1, RE.bind_ok] at o
      cases e2 : enumOf ds with
      | none => rw [e2] at o; exact o.elim
      | some zs =>
        rw [e2] at o
        rcases enumOf_cases e2 with ⟨xs, rfl, rfl⟩ | ⟨xs, rfl, rfl⟩
        · refine .inl ⟨Γ, S, Hf, μ, sl, so, by
            rw [e1]
            intro vs H1 Hf1 μ1 s1 so1 r1
            obtain ⟨v, rfl, q⟩ := RepL.one r1
            simp only [Rep] at q
            obtain ⟨a, us, rfl, qa, z, rl⟩ := q
            exact ⟨a, us, rfl, SqL.of (so1.sub _ _ qa), o _ H1 Hf1 μ1 s1 so1 (wk_enum (fun H h => ite_ok H h) (fun S' H' Hf' μ' g so' => ⟨.inl ⟨SqL.of (so'.sub _ _ (g.1 _ _ qa)), rfl⟩, RepL.mono g.1 g.2 _ _ rl⟩) rl.length)⟩⟩
        · refine .inr ⟨Γ, S, Hf, μ, sl, so, by
            rw [e1]
            intro vs H1 Hf1 μ1 s1 so1 r1
            obtain ⟨v, rfl, q⟩ := RepL.one r1
            simp only [Rep] at q
            obtain ⟨a, us, rfl, qa, z, rl⟩ := q
            exact ⟨a, us, rfl, so1.sub.tp qa, o _ H1 Hf1 μ1 s1 so1 (wk_enum (fun H h => ite_ok H h) (fun S' H' Hf' μ' g so' => ⟨.inr ⟨so'.sub.tp (g.1 _ _ qa), rfl⟩, RepL.mono g.1 g.2 _ _ rl⟩) rl.length)⟩⟩
/-- a list that may be a slot's own, walked while it stands -/
def iSeqB (f : Ev D) : Ev (List D) := fun Γ S => (f Γ S).bind fun d S' => match d with
  | .lst ds => .ok ds S'
  | _ => .no
theorem dj_own (h : DB X W e f) : DJ X W tg e (iSeqB f) :=
  PI_imp (pi_list h) fun σ H R ⟨Γ, S, Hf, μ, sl, so, o⟩ => ⟨Γ, S, Hf, μ, sl, so, Out.bind sl rm_itS o fun d S1 v H1 Hf1 μ1 _ s1 sl1 so1 r1 o1 => by
    cases d with
    | lst ds =>
      rcases r1 with r1 | ⟨i, es, e1, e2, e3⟩
      · simp only [Rep] at r1
        obtain ⟨a, xs, rfl, q, z, rl⟩ := r1
        exact ⟨a, rfl, ⟨xs, SqL.of (so1.sub _ _ q)⟩, o1 _ H1 Hf1 μ1 (Step.refl _ _ _) so1 (wk_list (fun S' H' Hf' μ' g so' => ⟨SqL.of (so'.sub _ _ (g.fz _ _ q)), RepL.mono g.fz g.mu _ _ rl⟩) rl.length)⟩
      · obtain ⟨p, u, e4, hp, ⟨xs, rfl, z, rl⟩, hf, hm⟩ := sl1.own i _ e1
        rw [e2] at e4
        cases e4
        cases e3
        exact ⟨p, rfl, ⟨xs, SqL.of hp⟩, o1 _ H1 Hf1 μ1 (Step.refl _ _ _) so1 (wk_list (fun S' H' Hf' μ' g so' => ⟨SqL.of (g.fr _ _ hp hm), RepL.mono g.fz g.mu _ _ rl⟩) rl.length)⟩
    | _ => exact o1.elim⟩
end

/-! ### for -/
def forL (t : Tgt) (body : Es) : List D → Es
  | [], Γ, S => .nx Γ S
  | d :: ds, Γ, S => match t.run d Γ with
    | none => .no
    | some Γ1 => match body Γ1 S with
      | .nx Γ2 S2 => forL t body ds Γ2 S2
      | .ct Γ2 S2 => forL t body ds Γ2 S2
      | .bk Γ2 S2 => .nx Γ2 S2
      | .rt v S2 => .rt v S2
      | .ex C fs Γ2 S2 => .ex C fs Γ2 S2
      | .no => .no
def sFor (it : Ev (List D)) (t : Tgt) (body : Es) : Es := fun Γ S => bindS Γ (it Γ S) fun ds S1 => forL t body ds Γ S1
section
variable {X : Cx} {B : Base} {W : WX} {tg iter : Expr} {body : List Stmt} {it : Ev (List D)} {t : Tgt} {f : Es} {pos : Pos}
theorem Rl.floor {K : PySem.W.Frag} {B : Base} {fl : Hp} {ml : List Addr} {fl' : Hp} {ml' : List Addr} {Γ : Gm} {S : Store} {σ : L2.St} {H Hf : Hp} {μ : List Addr} (r : Rl K (B.at fl ml) Γ S σ H Hf μ) (h : Sub fl' fl) (k : Pre ml' ml) : Rl K (B.at fl' ml') Γ S σ H Hf μ :=
  ⟨r.sl, r.so, r.st, r.own, h.trans r.fz, k.trans r.pm⟩
theorem ds_for (hp : PassesOwn (model X.prog X.w) X.A X.env X.xe) (hc : X.calm = true) (hi : DI X W tg iter it) (hg : DG X tg t) (hb : DSs X B W body f) (hs : ∀ x, foldedSetIterable iter X.env x = pure x := by intro _; rfl) :
    DS X B W (.For tg iter body [] pos) (sFor it t f) := by
  intro fl ml
  -- the body over every floor
  have hb' : PSs X body (fun E σ H => ∃ fl' ml', tS X.K (B.at fl' ml') W f E σ H) := ⟨fun pins s σ H E I ⟨fl', ml', h⟩ => (hb fl' ml').run pins s σ H E I h⟩
  refine PS_imp (ps_for hp hc hi hg hb' hs) fun E σ H ⟨Γ, S, Hf, μ, r, o⟩ => ⟨Γ, S, Hf, μ, r.sl, r.so, SOut.bind r o fun ds S1 J H1 Hf1 μ1 _ s1 r1 wk o1 => ?_⟩
  -- W: what is left to walk
  refine ⟨fun i m σ' H' => m = ds.length - i ∧ i ≤ ds.length ∧ ∃ Γ' S' Hf' μ', Rl X.K (B.at Hf1 μ1) Γ' S' σ' H' Hf' μ' ∧ SOut X.K (B.at fl ml) W E (forL t f (ds.drop i) Γ' S'), ⟨ds.length, by simp, Nat.zero_le _, Γ, S1, Hf1, μ1, ⟨r1.sl, r1.so, r1.st, r1.own, Sub.refl _, Pre.refl _⟩, by simpa using o1⟩, ?_⟩
  rintro i m σ' H' ⟨rfl, hi', Γ', S', Hf', μ', r', o'⟩
  have g0 : GF Hf1 μ1 H' Hf' μ' := ⟨r'.fz, r'.pm⟩
  have down : ∀ {Γ2 : Gm} {S2 : Store} {σ2 : L2.St} {H2 Hf2 : Hp} {μ2 : List Addr}, Rl X.K (B.at Hf1 μ1) Γ2 S2 σ2 H2 Hf2 μ2 → Rl X.K (B.at fl ml) Γ2 S2 σ2 H2 Hf2 μ2 := fun z => z.floor r1.fz r1.pm
  by_cases hlt : i < ds.length
  · refine .inr ⟨wk.goes i S' H' Hf' μ' hlt g0 r'.so, fun σ2 H2 => (i + 1 ≤ ds.length ∧ ∃ Γ2 S2 Hf2 μ2, Rl X.K (B.at Hf1 μ1) Γ2 S2 σ2 H2 Hf2 μ2 ∧ SOut X.K (B.at fl ml) W E (forL t f (ds.drop (i + 1)) Γ2 S2)), fun σ2 H2 ⟨a, b⟩ => ⟨ds.length - (i + 1), by omega, rfl, a, b⟩, fun x H2 y => ?_⟩
    obtain ⟨d, Hf2, ed, st2, so2, rd⟩ := wk.yields i S' H' Hf' μ' x H2 hlt g0 r'.so y
    have r2 : Rl X.K (B.at Hf1 μ1) Γ' S' σ' H2 Hf2 μ' := r'.step st2 so2
    rw [List.drop_eq_getElem_cons hlt] at o'
    have ed' : ds[i] = d := by
      rw [List.getElem?_eq_getElem hlt] at ed
      exact Option.some.inj ed
    rw [ed'] at o'
    unfold forL at o'
    refine ⟨d, Γ', S', Hf2, μ', r2.sl, so2, rd, ?_⟩
    cases e1 : t.run d Γ' with
    | none => simp only [e1] at o'; exact o'.elim
    | some Γ1 =>
      simp only [e1] at o'
      intro σ3 sl3 ow3 _
      have r3 : Rl X.K (B.at Hf1 μ1) Γ1 S' σ3 H2 Hf2 μ' := ⟨sl3, so2, r2.st, fun j oo p z1 z2 => let ⟨y1, y2⟩ := ow3 j oo p z1 z2; r2.own j oo p y1 y2, r2.fz, r2.pm⟩
      refine ⟨Hf1, μ1, Γ1, S', Hf2, μ', r3, ?_⟩
      cases e2 : f Γ1 S' with
      | nx Γ2 S2 =>
        simp only [e2] at o'
        exact fun σ4 H4 Hf4 μ4 r4 => ⟨by omega, Γ2, S2, Hf4, μ4, r4, o'⟩
      | ct Γ2 S2 =>
        simp only [e2] at o'
        exact fun σ4 H4 Hf4 μ4 r4 => ⟨by omega, Γ2, S2, Hf4, μ4, r4, o'⟩
      | bk Γ2 S2 =>
        simp only [e2] at o'
        exact fun σ4 H4 Hf4 μ4 r4 => o' σ4 H4 Hf4 μ4 (down r4)
      | rt v S2 =>
        simp only [e2] at o'
        exact o'
      | ex C fs Γ2 S2 =>
        simp only [e2] at o'
        exact fun dd fv σ4 H4 Hf4 μ4 r4 => o' dd fv σ4 H4 Hf4 μ4 (down r4)
      | no => simp only [e2] at o'; exact o'.elim
  · have e : i = ds.length := by omega
    subst e
    rw [List.drop_length] at o'
    exact .inl ⟨wk.stops S' H' Hf' μ' g0 r'.so, o' σ' H' Hf' μ' (down r')⟩
end

/-! ### while -/
def whL (c : Ev Bool) (body : Es) : Nat → Es
  | 0, _, _ => .no
  | n + 1, Γ, S => bindS Γ (c Γ S) fun b S1 => if b then (match body Γ S1 with
      | .nx Γ2 S2 => whL c body n Γ2 S2
      | .ct Γ2 S2 => whL c body n Γ2 S2
      | .bk Γ2 S2 => .nx Γ2 S2
      | .rt v S2 => .rt v S2
      | .ex C fs Γ2 S2 => .ex C fs Γ2 S2
      | .no => .no) else .nx Γ S1
/-- with so many turns at most -/
def sWhile (n : Nat) (c : Ev Bool) (body : Es) : Es := whL c body n
section
variable {X : Cx} {B : Base} {W : WX} {c : Expr} {body : List Stmt} {fc : Ev Bool} {f : Es} {pos : Pos}
theorem ds_while (n : Nat) (hp : PassesOwn (model X.prog X.w) X.A X.env X.xe) (hc : DT X W c fc) (hb : DSs X B W body f) : DS X B W (.While c body [] pos) (sWhile n fc f) := by
  intro fl ml
  refine PS_imp (ps_while hp hc (hb fl ml)) fun E σ H ⟨Γ, S, Hf, μ, r, o⟩ => ?_
  refine ⟨fun m σ' H' => ∃ Γ' S' Hf' μ', Rl X.K (B.at fl ml) Γ' S' σ' H' Hf' μ' ∧ SOut X.K (B.at fl ml) W E (whL fc f m Γ' S'), ⟨n, Γ, S, Hf, μ, r, o⟩, ?_⟩
  rintro m σ' H' ⟨Γ', S', Hf', μ', r', o'⟩
  cases m with
  | zero => exact o'.elim
  | succ m =>
    unfold whL at o'
    refine ⟨Γ', S', Hf', μ', r'.sl, r'.so, SOut.bind r' o' fun d S1 v H1 Hf1 μ1 _ s1 r1 re o1 => ?_⟩
    obtain rfl : d = v := re
    cases d with
    | true =>
      rw [if_pos rfl] at o1 ⊢
      refine ⟨fun σ2 H2 => ∃ Γ2 S2 Hf2 μ2, Rl X.K (B.at fl ml) Γ2 S2 σ2 H2 Hf2 μ2 ∧ SOut X.K (B.at fl ml) W E (whL fc f m Γ2 S2), fun σ2 H2 h => ⟨m, Nat.lt_succ_self _, h⟩, Γ', S1, Hf1, μ1, r1, ?_⟩
      cases e2 : f Γ' S1 with
      | nx Γ2 S2 =>
        rw [e2] at o1
        exact fun σ4 H4 Hf4 μ4 r4 => ⟨Γ2, S2, Hf4, μ4, r4, o1⟩
      | ct Γ2 S2 =>
        rw [e2] at o1
        exact fun σ4 H4 Hf4 μ4 r4 => ⟨Γ2, S2, Hf4, μ4, r4, o1⟩
      | bk Γ2 S2 => rw [e2] at o1; exact o1
      | rt v S2 => rw [e2] at o1; exact o1
      | ex C fs Γ2 S2 => rw [e2] at o1; exact o1
      | no => rw [e2] at o1; exact o1.elim
    | false =>
      rw [if_neg Bool.false_ne_true] at o1 ⊢
      exact o1 σ' H1 Hf1 μ1 r1
end
end DL
set_option Elab.async false
set_option linter.all false
set_option maxRecDepth 100000
/-! DLe: list comprehensions. -/
namespace DL
open PySem PySem.Spec PyProof.Rows L2

/-- an object of one's own -/
structure Priv (D : Addr) (u : HO) (H Hf : Hp) (μ : List Addr) : Prop where
  at_ : H D = some u
  fz : Hf D = none
  nm : D ∉ μ
section
variable {K : PySem.W.Frag} {D : Addr} {u u' : HO} {S : Store} {H Hf H' Hf' H0 Hf0 : Hp} {μ μ' μ0 : List Addr}
theorem Priv.step (p : Priv D u H Hf μ) (s : Step H Hf μ H' Hf' μ') : Priv D u H' Hf' μ' :=
  ⟨s.fr _ _ p.at_ p.nm, s.nf _ p.fz (by rw [p.at_]; exact fun z => nomatch z), fun m => (s.nm _ m).elim p.nm fun z => by rw [p.at_] at z; cases z⟩
theorem Priv.upd (p : Priv D u H Hf μ) : Priv D u' (L2.upd H D u') Hf μ := ⟨upd_same, p.fz, p.nm⟩
theorem Priv.sto (p : Priv D u H Hf μ) (so : StoOk K S H Hf μ) : StoOk K S (L2.upd H D u') Hf μ :=
  ⟨fun a o e => by
    have hn : a ≠ D := fun z => by rw [z, p.fz] at e; cases e
    rw [upd_ne hn]; exact so.sub a o e, so.len, so.nd, fun n o a e1 e2 => by
    have hn : a ≠ D := fun z => p.nm (z ▸ List.mem_of_getElem? e2)
    obtain ⟨w, h1, h2⟩ := so.ob n o a e1 e2
    exact ⟨w, by rw [upd_ne hn]; exact h1, h2⟩, so.fz⟩
/-- from a state that knew nothing of it -/
theorem Priv.back (h0 : H0 D = none) (s : Step H0 Hf0 μ0 H Hf μ) : Step H0 Hf0 μ0 (L2.upd H D u') Hf μ :=
  ⟨fun a o e m => by rw [upd_ne (ne_of_none e h0)]; exact s.fr a o e m, s.fz, s.nf, s.mu, s.nm, fun a h => by
    rw [upd_ne (show a ≠ D from fun z => h (z ▸ h0))]; exact s.th a h⟩
end

theorem wipe_wipe {σ : L2.St} {vs : List Nat} : ∀ {ws : List Nat}, (∀ i ∈ ws, i ∈ vs) → L2.wipe (L2.wipe σ ws) vs = L2.wipe σ vs
  | [], _ => rfl
  | w :: ws, h => by
    show L2.wipe ((L2.wipe σ ws).set w none) vs = _
    rw [wipe_set (h w List.mem_cons_self), wipe_wipe fun i hi => h i (List.mem_cons_of_mem _ hi)]
def noEx {α : Type} (r : RE α) : RE α := match r with
  | .ok a S => .ok a S
  | _ => .no
@[simp] theorem noEx_ok {α : Type} (a : α) (S : Store) : noEx (.ok a S) = .ok a S := rfl
@[simp] theorem noEx_no {α : Type} : noEx (.no : RE α) = .no := rfl
@[simp] theorem noEx_ex {α : Type} (C : PySem.Str) (fs : List (PySem.Str × D)) (S : Store) : noEx (.ex C fs S : RE α) = .no := rfl
/-- no test -/
def bYes : Ev Bool := fun _ S => .ok true S
def lcL (t : Tgt) (c : Ev Bool) (f : Ev D) (Γ : Gm) : List D → Store → RE (List D)
  | [], S => .ok [] S
  | d :: ds, S => match t.run d Γ with
    | none => .no
    | some Γ1 => (noEx (c Γ1 S)).bind fun b S1 => if b then (noEx (f Γ1 S1)).bind fun x S2 => (lcL t c f Γ ds S2).bind fun xs S3 => .ok (x :: xs) S3 else lcL t c f Γ ds S1
def wipeG (Γ : Gm) : List Nat → Gm
  | [] => Γ
  | v :: vs => (wipeG Γ vs).set v none
def nLc (it : Ev (List D)) (vs : List Nat) (t : Tgt) (c : Ev Bool) (f : Ev D) : Ev SO := fun Γ S => (it Γ S).bind fun ds S1 => if ds.length ≤ sizeLine then (lcL t c f (wipeG Γ vs) ds S1).bind fun xs S2 => .ok (.lst xs) S2 else .no
theorem SlOk.wipe {K : PySem.W.Frag} {Γ : Gm} {σ : L2.St} {H Hf : Hp} {μ : List Addr} (h : SlOk K Γ σ H Hf μ) : ∀ vs : List Nat, SlOk K (wipeG Γ vs) (L2.wipe σ vs) H Hf μ
  | [] => h
  | v :: vs => (SlOk.wipe h vs).setO v none
abbrev W0 : WX := fun _ _ _ _ => False
abbrev DTs (X : Cx) (W : WX) (es : List Expr) (f : Ev Bool) : Prop := PTs X es (tT X.K W f)
theorem PTs_imp {X : Cx} {es : List Expr} {t t' : TT} (h : PTs X es t) (k : ∀ σ H Q, t' σ H Q → t σ H Q) : PTs X es t' := ⟨fun pins s σ H Q I hq => h.run pins s σ H Q I (k σ H Q hq)⟩
theorem dts_nil {X : Cx} {W : WX} : DTs X W [] bYes := PTs_imp pts_nil fun σ H Q ⟨Γ, S, Hf, μ, sl, so, o⟩ => o true H Hf μ (Step.refl _ _ _) so rfl
theorem dts_one {X : Cx} {W : WX} {c : Expr} {f : Ev Bool} (h : DT X W c f) : DTs X W [c] f := pts_one h
section
variable {X : Cx} {W : WX} {it : Ev (List D)} {t : Tgt} {fc : Ev Bool} {fe : Ev D} {vs : List Nat}
theorem tLc_of {K : PySem.W.Frag} (hix : ∀ i ∈ t.ix, i ∈ vs) {σ : L2.St} {H : Hp} {Q : VK} (q : tN K W (nLc it vs t fc fe) σ H Q) : tLc (tIS K W it) (tG K t) (tT K W0 fc) (tE K W0 fe) vs σ H Q := by
  obtain ⟨Γ, S, Hf, μ, sl, so, o⟩ := q
  refine ⟨Γ, S, Hf, μ, sl, so, Out.bind sl rm_new o fun ds S1 J H1 Hf1 μ1 _ s1 sl1 so1 wk o1 => ?_⟩
  by_cases hz : ds.length ≤ sizeLine
  case neg => rw [if_neg hz] at o1; exact o1.elim
  rw [if_pos hz] at o1
  intro Dl hD
  obtain ⟨stD, soD, hfD, hmD⟩ := Step.layN (u := .lst []) so1 hD
  have slB : SlOk K (wipeG Γ vs) (L2.wipe σ vs) H1 Hf1 μ1 := sl1.wipe vs
  refine ⟨fun i m H' => m = ds.length - i ∧ i ≤ ds.length ∧ ∃ S' Hf' μ' as xs, Step H1 Hf1 μ1 H' Hf' μ' ∧ StoOk K S' H' Hf' μ' ∧ Priv Dl (.lst xs) H' Hf' μ' ∧ RepL K μ' Hf' as xs ∧ xs.length ≤ i ∧
    Out K (NewR K) W σ H1 Hf1 μ1 ((lcL t fc fe (wipeG Γ vs) (ds.drop i) S').bind fun zs S2 => .ok (.lst (as ++ zs)) S2) Q,
    ⟨ds.length, by simp, Nat.zero_le _, S1, Hf1, μ1, [], [], stD, soD, ⟨upd_same, hfD, hmD⟩, RepL.nil, Nat.le_refl _, by simpa using o1⟩, ?_⟩
  rintro i m H' ⟨rfl, hi', S', Hf', μ', as, xs, st, so', pv, ra, hl, o'⟩
  by_cases hlt : i < ds.length
  · refine .inr ⟨wk.goes i S' H' Hf' μ' hlt st so', fun H2 => i + 1 ≤ ds.length ∧ ∃ S2 Hf2 μ2 as2 xs2, Step H1 Hf1 μ1 H2 Hf2 μ2 ∧ StoOk K S2 H2 Hf2 μ2 ∧ Priv Dl (.lst xs2) H2 Hf2 μ2 ∧ RepL K μ2 Hf2 as2 xs2 ∧ xs2.length ≤ i + 1 ∧
      Out K (NewR K) W σ H1 Hf1 μ1 ((lcL t fc fe (wipeG Γ vs) (ds.drop (i + 1)) S2).bind fun zs S3 => .ok (.lst (as2 ++ zs)) S3) Q, fun H2 ⟨a, b⟩ => ⟨ds.length - (i + 1), by omega, rfl, a, b⟩, fun x H2 y => ?_⟩
    obtain ⟨d, Hf2, ed, st2, so2, rd⟩ := wk.yields i S' H' Hf' μ' x H2 hlt st so' y
    rw [List.drop_eq_getElem_cons hlt] at o'
    have ed' : ds[i] = d := by
      rw [List.getElem?_eq_getElem hlt] at ed
      exact Option.some.inj ed
    rw [ed'] at o'
    unfold lcL at o'
    refine ⟨d, wipeG Γ vs, S', Hf2, μ', slB.step (st.trans st2), so2, rd, ?_⟩
    cases e1 : t.run d (wipeG Γ vs) with
    | none => simp only [e1, RE.bind_no] at o'; exact o'.elim
    | some Γ1 =>
      simp only [e1] at o'
      intro σ3 sl3 _ wp3
      refine ⟨(wp3 vs hix).trans (wipe_wipe fun _ h => h), Γ1, S', Hf2, μ', sl3, so2, ?_⟩
      cases e2 : fc Γ1 S' with
      | no => simp only [e2, noEx_no, RE.bind_no] at o'; exact o'.elim
      | ex C fs S3 => simp only [e2, noEx_ex, RE.bind_no] at o'; exact o'.elim
      | ok b S3 =>
        simp only [e2, noEx_ok, RE.bind_ok] at o'
        intro b' H3 Hf3 μ3 st3 so3 eb
        obtain rfl : b = b' := eb
        have stA := (st.trans st2).trans st3
        have pv3 := (pv.step st2).step st3
        cases b with
        | false =>
          rw [if_neg Bool.false_ne_true] at o' ⊢
          exact ⟨by omega, S3, Hf3, μ3, as, xs, stA, so3, pv3, (st2.trans st3).repL ra, by omega, o'⟩
        | true =>
          rw [if_pos rfl] at o' ⊢
          refine ⟨Γ1, S3, Hf3, μ3, sl3.step st3, so3, ?_⟩
          cases e3 : fe Γ1 S3 with
          | no => simp only [e3, noEx_no, RE.bind_no] at o'; exact o'.elim
          | ex C fs S4 => simp only [e3, noEx_ex, RE.bind_no] at o'; exact o'.elim
          | ok z S4 =>
            simp only [e3, noEx_ok, RE.bind_ok] at o'
            intro v H4 Hf4 μ4 st4 so4 rz
            have pv4 := pv3.step st4
            refine ⟨xs, pv4.at_, by omega, by omega, S4, Hf4, μ4, as ++ [z], xs ++ [v], Priv.back hD (stA.trans st4), pv4.sto so4, pv4.upd, RepL.append (((st2.trans st3).trans st4).repL ra) (RepL.cons rz RepL.nil), by simp; omega, ?_⟩
            cases e4 : lcL t fc fe (wipeG Γ vs) (ds.drop (i + 1)) S4 with
            | no => simp only [e4, RE.bind_no] at o'; exact o'.elim
            | ex C fs S5 => simp only [e4, RE.bind_ex] at o' ⊢; exact o'
            | ok ws S5 =>
              simp only [e4, RE.bind_ok] at o' ⊢
              simpa using o'
  · have e : i = ds.length := by omega
    subst e
    rw [List.drop_length] at o'
    unfold lcL at o'
    simp only [RE.bind_ok, List.append_nil] at o'
    exact .inl ⟨wk.stops S' H' Hf' μ' st so', o' (.ref Dl) H' Hf' μ' st so' ⟨Dl, .lst xs, rfl, hD, pv.at_, ⟨xs, rfl, by omega, ra⟩, pv.fz, pv.nm⟩⟩
variable {elt tg iter : Expr} {ifs : List Expr} {scope : Scope} {pos : Pos}
theorem dn_lc (own : List (PySem.Str × Nat)) (hc : X.calm = true) (hN : X.N.Nodup) (hi : DJ X W tg iter it) (ok : BlkOk X.N X.env.scope scope own) (hix : ∀ i ∈ t.ix, i ∈ own.map (·.2))
    (hg : ∀ (s : Shared) (H : Hp) (C : Addr) (cl : List (PySem.Str × Addr)) (fp : List Addr), DG (X.blk s H scope (compEnvC scope cl C X.env) fp) tg t) (ht : ∀ (s : Shared) (H : Hp) (C : Addr) (cl : List (PySem.Str × Addr)) (fp : List Addr), DTs (X.blk s H scope (compEnvC scope cl C X.env) fp) W0 ifs fc)
    (he : ∀ (s : Shared) (H : Hp) (C : Addr) (cl : List (PySem.Str × Addr)) (fp : List Addr), DE (X.blk s H scope (compEnvC scope cl C X.env) fp) W0 elt fe) (hs : ∀ x, foldedSetIterable iter X.env x = pure x := by intro _; rfl) :
    DN X W (.ListComp elt [⟨tg, iter, ifs, 0⟩] scope pos) (nLc it (own.map (·.2)) t fc fe) := PE_imp (pe_lc hc hN hi ok hg ht he hs) fun _ _ _ => tLc_of hix
/-- name = [..] on one line, the name a local -/
theorem ds_newLc {B : Base} {i : Nat} {y : PySem.Str} {py spos : Pos} (own : List (PySem.Str × Nat)) (hc : X.calm = true) (hN : X.N.Nodup) (hi : DJ X W tg iter it) (ok : BlkOk X.N X.env.scope scope own) (hix : ∀ i ∈ t.ix, i ∈ own.map (·.2))
    (hg : ∀ (s : Shared) (H : Hp) (C : Addr) (cl : List (PySem.Str × Addr)) (fp : List Addr), DG (X.blk s H scope (compEnvC scope cl C X.env) fp) tg t) (ht : ∀ (s : Shared) (H : Hp) (C : Addr) (cl : List (PySem.Str × Addr)) (fp : List Addr), DTs (X.blk s H scope (compEnvC scope cl C X.env) fp) W0 ifs fc)
    (he : ∀ (s : Shared) (H : Hp) (C : Addr) (cl : List (PySem.Str × Addr)) (fp : List Addr), DE (X.blk s H scope (compEnvC scope cl C X.env) fp) W0 elt fe) (hsw : swapsWith (.ListComp elt [⟨tg, iter, ifs, 0⟩] scope pos) (some (.Name y py)) spos.line X.env = pure true)
    (hy : X.N[i]? = some y := by rfl) (hyl : X.env.scope.names.lookup y = some .local := by rfl) (hs : ∀ x, foldedSetIterable iter X.env x = pure x := by intro _; rfl) :
    DS X B W (.Assign [.Name y py] (.ListComp elt [⟨tg, iter, ifs, 0⟩] scope pos) spos) (sNew i (nLc it (own.map (·.2)) t fc fe)) := fun fl ml =>
  PS_imp (ps_setLc hc hN hy hyl hsw hi ok hg ht he hs) fun E σ H h => by
    obtain ⟨Γ, S, Hf, μ, sl, so, o⟩ := tS_new h
    exact tLc_of hix ⟨Γ, S, Hf, μ, sl, so, o⟩
theorem ds_setLc {B : Base} {i : Nat} {y : PySem.Str} {py spos : Pos} (own : List (PySem.Str × Nat)) (hc : X.calm = true) (hN : X.N.Nodup) (hi : DJ X W tg iter it) (ok : BlkOk X.N X.env.scope scope own) (hix : ∀ i ∈ t.ix, i ∈ own.map (·.2))
    (hg : ∀ (s : Shared) (H : Hp) (C : Addr) (cl : List (PySem.Str × Addr)) (fp : List Addr), DG (X.blk s H scope (compEnvC scope cl C X.env) fp) tg t) (ht : ∀ (s : Shared) (H : Hp) (C : Addr) (cl : List (PySem.Str × Addr)) (fp : List Addr), DTs (X.blk s H scope (compEnvC scope cl C X.env) fp) W0 ifs fc)
    (he : ∀ (s : Shared) (H : Hp) (C : Addr) (cl : List (PySem.Str × Addr)) (fp : List Addr), DE (X.blk s H scope (compEnvC scope cl C X.env) fp) W0 elt fe) (hsw : swapsWith (.ListComp elt [⟨tg, iter, ifs, 0⟩] scope pos) (some (.Name y py)) spos.line X.env = pure true)
    (hy : X.N[i]? = some y := by rfl) (hyl : X.env.scope.names.lookup y = some .local := by rfl) (hs : ∀ x, foldedSetIterable iter X.env x = pure x := by intro _; rfl) :
    DS X B W (.Assign [.Name y py] (.ListComp elt [⟨tg, iter, ifs, 0⟩] scope pos) spos) (sSet i (eFrz (nLc it (own.map (·.2)) t fc fe))) := fun fl ml =>
  PS_imp (ps_setLc hc hN hy hyl hsw hi ok hg ht he hs) fun E σ H h => by
    obtain ⟨Γ, S, Hf, μ, sl, so, o⟩ := tE_frz (tS_set h)
    exact tLc_of hix ⟨Γ, S, Hf, μ, sl, so, o⟩
end
end DL
set_option Elab.async false
set_option linter.all false
set_option maxRecDepth 100000
set_option maxHeartbeats 4000000
/-! a tuple, once -/
namespace DL
open PySem PySem.Spec PyProof.Rows L2
theorem tuple_mul1W (l : Addr) (items : Array Value) (n : Nat) (dd : Option Addr) (sl : Array (Option Value)) (u : Tok) :
    Meets (Builtin.«tuple.__mul__» ⟨[.ref l, .int 1 u], []⟩) (fun _ R s => s.heap.get? l = some { cls := .type "tuple", dict := dd, data := .seq items n, slots := sl } ∧ R (.ok (.ret (Value.ref l))) s) :=
  .of_wp fun prog w A R s h => by
    obtain ⟨hp, g, d, tk, os⟩ := s
    obtain ⟨hl, h⟩ := h
    have f1 := AutoSeq1.idx_int
    have c0 : (decide ((1 : Int) < -(2 ^ 63)) || decide ((1 : Int) ≥ 2 ^ 63)) = false := by decide
    have c1 : (items.isEmpty || (1 : Int) == 1) = true := by simp
    wp_walk using wpAny_loadPart' hl
    repeat (first
      | (refine wpAny_ite_false (decide_eq_false (by rw [c0]; exact Bool.false_ne_true)) ?_; wp_walk using wpAny_loadPart' hl)
      | (refine wpAny_ite_true (decide_eq_true c1) ?_; wp_walk using wpAny_loadPart' hl))
    exact ⟨_, rfl, h⟩
/-- the same tuple comes back -/
def rRep1 (K : PySem.W.Frag) : R2 := fun x y H Q => ∃ l xs, x = .ref l ∧ y = .int 1 ∧ SqT K H l xs ∧ Q (.ref l) H
section
variable {X : Cx}
theorem op_rep1 : OpR X (binaryOp .Mult) (rRep1 X.K) := by
  intro pins s σ H x y v u Q I rx ry h
  obtain ⟨l, xs, rfl, rfl, hT, q⟩ := h
  cases rx
  obtain ⟨t, rfl⟩ := ry
  obtain ⟨its, r, ⟨⟨cls, dd, data, sl⟩, ho, hc, n, hd⟩, hs⟩ := I.tuple hT
  simp only at hc hd
  subst hc hd
  refine wpAny_binaryOp_repeat_ref (T := "tuple") (U := "int") (by decide) ⟨_, ho, rfl⟩ (fun s' => typeIs_int s' 1 t) noFill_tuple_mul F.fills_int_mul F.slot_int_rmul repeat_tuple F.slot_int_index.lookup
    (call_meets F.slot_int_rmul (typeIs_int s 1 t) F.entry_int_rmul (F.args_int_rmul_2 _ _) (int_rmul_tuple 1 t l its.toArray n dd sl)
      ⟨ho, rfl, ⟨_, ho, rfl⟩, call_meets F.slot_tuple_mul ⟨_, ho, rfl⟩ F.entry_tuple_mul (F.args_tuple_mul_2 _ _) (tuple_mul1W l its.toArray n dd sl t) ⟨ho, ?_⟩⟩)
  exact ⟨.ref l, _, I, rfl, q⟩
end
end DL
set_option Elab.async false
set_option linter.all false
set_option maxRecDepth 100000
/-! DLf: operations on data: borrowed operands, arithmetic, comparisons. -/
namespace DL
open PySem PySem.Spec PyProof.Rows L2

/-! ### data as the library's data -/
mutual
def pyD : D → Option PyData
  | .non => some .none
  | .bl b => some (.bool b)
  | .int i => some (.int i)
  | .str s => some (.str s)
  | .tup ds => (pyDL ds).map .tuple
  | .lst ds => (pyDL ds).map .list
  | .kst ds => (pyDL ds).map .list
  | .loc _ => none
  | .raw _ => none
def pyDL : List D → Option (List PyData)
  | [] => some []
  | d :: ds => match pyD d, pyDL ds with
    | some p, some ps => some (p :: ps)
    | _, _ => none
end
mutual
/-- the store's lists, one deep -/
def pyS (S : Store) : D → Option PyData
  | .non => some .none
  | .bl b => some (.bool b)
  | .int i => some (.int i)
  | .str s => some (.str s)
  | .tup ds => (pySL S ds).map .tuple
  | .lst ds => (pySL S ds).map .list
  | .kst ds => (pySL S ds).map .list
  | .loc n => match S[n]? with
    | some (.lst ds) => (pyDL ds).map .list
    | _ => none
  | .raw _ => none
def pySL (S : Store) : List D → Option (List PyData)
  | [] => some []
  | d :: ds => match pyS S d, pySL S ds with
    | some p, some ps => some (p :: ps)
    | _, _ => none
end
section
variable {K : PySem.W.Frag} {μ : List Addr} {H Hf : Hp} {S : Store}
mutual
theorem dp_of (hs : Sub Hf H) : ∀ (d : D) (v : V) (p : PyData), Rep K μ Hf d v → pyD d = some p → Dp K H v p
  | .non, v, p, r, e => by
    simp only [Rep] at r; simp only [pyD, Option.some.injEq] at e; subst r e; exact .non
  | .bl b, v, p, r, e => by
    simp only [Rep] at r; simp only [pyD, Option.some.injEq] at e; subst r e; exact .bl b
  | .int i, v, p, r, e => by
    simp only [Rep] at r; simp only [pyD, Option.some.injEq] at e; subst r e; exact .int i
  | .str s, v, p, r, e => by
    simp only [Rep] at r; simp only [pyD, Option.some.injEq] at e; subst r e; exact .str s
  | .tup ds, v, p, r, e => by
    simp only [Rep] at r
    obtain ⟨a, xs, rfl, q, _, rl⟩ := r
    simp only [pyD] at e
    cases e2 : pyDL ds with
    | none => rw [e2] at e; cases e
    | some ps => rw [e2] at e; cases e; exact .tup (hs.tp q) (dps_of hs ds xs ps rl e2)
  | .lst ds, v, p, r, e => by
    simp only [Rep] at r
    obtain ⟨a, xs, rfl, q, _, rl⟩ := r
    simp only [pyD] at e
    cases e2 : pyDL ds with
    | none => rw [e2] at e; cases e
    | some ps => rw [e2] at e; cases e; exact .lst (SqL.of (hs _ _ q)) (dps_of hs ds xs ps rl e2)
  | .kst ds, v, p, r, e => by
    simp only [Rep] at r
    obtain ⟨a, xs, rfl, q, _, rl⟩ := r
    simp only [pyD] at e
    cases e2 : pyDL ds with
    | none => rw [e2] at e; cases e
    | some ps => rw [e2] at e; cases e; exact .lst (hs.sl q) (dps_of hs ds xs ps rl e2)
  | .loc _, v, p, r, e => by simp only [pyD] at e; cases e
  | .raw _, v, p, r, e => by simp only [pyD] at e; cases e
theorem dps_of (hs : Sub Hf H) : ∀ (ds : List D) (vs : List V) (ps : List PyData), RepL K μ Hf ds vs → pyDL ds = some ps → DpAll K H vs ps
  | [], vs, ps, r, e => by
    simp only [RepL] at r; simp only [pyDL, Option.some.injEq] at e; subst r e; exact .nil
  | d :: ds, vs, ps, r, e => by
    simp only [RepL] at r
    obtain ⟨x, xs, rfl, q, rl⟩ := r
    simp only [pyDL] at e
    cases e1 : pyD d with
    | none => rw [e1] at e; cases e
    | some p =>
      rw [e1] at e
      cases e2 : pyDL ds with
      | none => rw [e2] at e; cases e
      | some qs => rw [e2] at e; cases e; exact .cons (dp_of hs d x p q e1) (dps_of hs ds xs qs rl e2)
end
mutual
theorem dpS_of (so : StoOk K S H Hf μ) : ∀ (d : D) (v : V) (p : PyData), Rep K μ Hf d v → pyS S d = some p → Dp K H v p
  | .non, v, p, r, e => by
    simp only [Rep] at r; simp only [pyS, Option.some.injEq] at e; subst r e; exact .non
  | .bl b, v, p, r, e => by
    simp only [Rep] at r; simp only [pyS, Option.some.injEq] at e; subst r e; exact .bl b
  | .int i, v, p, r, e => by
    simp only [Rep] at r; simp only [pyS, Option.some.injEq] at e; subst r e; exact .int i
  | .str s, v, p, r, e => by
    simp only [Rep] at r; simp only [pyS, Option.some.injEq] at e; subst r e; exact .str s
  | .tup ds, v, p, r, e => by
    simp only [Rep] at r
    obtain ⟨a, xs, rfl, q, _, rl⟩ := r
    simp only [pyS] at e
    cases e2 : pySL S ds with
    | none => rw [e2] at e; cases e
    | some ps => rw [e2] at e; cases e; exact .tup (so.sub.tp q) (dpsS_of so ds xs ps rl e2)
  | .lst ds, v, p, r, e => by
    simp only [Rep] at r
    obtain ⟨a, xs, rfl, q, _, rl⟩ := r
    simp only [pyS] at e
    cases e2 : pySL S ds with
    | none => rw [e2] at e; cases e
    | some ps => rw [e2] at e; cases e; exact .lst (SqL.of (so.sub _ _ q)) (dpsS_of so ds xs ps rl e2)
  | .kst ds, v, p, r, e => by
    simp only [Rep] at r
    obtain ⟨a, xs, rfl, q, _, rl⟩ := r
    simp only [pyS] at e
    cases e2 : pySL S ds with
    | none => rw [e2] at e; cases e
    | some ps => rw [e2] at e; cases e; exact .lst (so.sub.sl q) (dpsS_of so ds xs ps rl e2)
  | .loc n, v, p, r, e => by
    simp only [Rep] at r
    obtain ⟨a, rfl, q⟩ := r
    simp only [pyS] at e
    cases e2 : S[n]? with
    | none => rw [e2] at e; cases e
    | some o =>
      rw [e2] at e
      cases o with
      | lst es =>
        obtain ⟨u, h1, ⟨xs, rfl, z, rl⟩⟩ := so.ob n _ a e2 q
        cases e3 : pyDL es with
        | none => simp only [e3] at e; cases e
        | some ps => simp only [e3] at e; cases e; exact .lst (SqL.of h1) (dps_of so.sub es xs ps rl e3)
      | _ => cases e
  | .raw _, v, p, r, e => by simp only [pyS] at e; cases e
theorem dpsS_of (so : StoOk K S H Hf μ) : ∀ (ds : List D) (vs : List V) (ps : List PyData), RepL K μ Hf ds vs → pySL S ds = some ps → DpAll K H vs ps
  | [], vs, ps, r, e => by
    simp only [RepL] at r; simp only [pySL, Option.some.injEq] at e; subst r e; exact .nil
  | d :: ds, vs, ps, r, e => by
    simp only [RepL] at r
    obtain ⟨x, xs, rfl, q, rl⟩ := r
    simp only [pySL] at e
    cases e1 : pyS S d with
    | none => rw [e1] at e; cases e
    | some p =>
      rw [e1] at e
      cases e2 : pySL S ds with
      | none => rw [e2] at e; cases e
      | some qs => rw [e2] at e; cases e; exact .cons (dpS_of so d x p q e1) (dpsS_of so ds xs qs rl e2)
end
theorem dpsS_list (so : StoOk K S H Hf μ) {ds : List D} {xs : List V} {p : PyData} (rl : RepL K μ Hf ds xs) (h : (pySL S ds).map PyData.list = some p) {a : Addr} (hq : SqL K H a xs) : Dp K H (.ref a) p := by
  cases e2 : pySL S ds with
  | none => rw [e2] at h; cases h
  | some ps => rw [e2] at h; cases h; exact .lst hq (dpsS_of so ds xs ps rl e2)
theorem bor_dp (so : StoOk K S H Hf μ) {d : D} {v : V} {p : PyData} (b : Bor K H Hf μ d v) (h : pyS S d = some p) : Dp K H v p := by
  rcases b with r | ⟨ds, a, xs, rfl, rfl, ha, z, rl⟩
  · exact dpS_of so d v p r h
  · simp only [pyS] at h
    exact dpsS_list so rl h (SqL.of ha)
end

/-! ### a value that is used at once, two of them -/
theorem BorR.keep {K : PySem.W.Frag} {Γ : Gm} {σ : L2.St} {H Hf H' Hf' H0 H0' : Hp} {μ μ' : List Addr} {d : D} {v : V} (s : Step H Hf μ H' Hf' μ') (b : BorR K σ Γ H0 H Hf μ d v) : BorR K σ Γ H0' H' Hf' μ' d v := by
  rcases b with r | r
  · exact .inl (s.rep r)
  · exact .inr r
abbrev Op2 := Store → D → D → Option D
def eBin2 (op : Op2) (a b : Ev D) : Ev D := fun Γ S => (a Γ S).bind fun x S1 => (b Γ S1).bind fun y S2 => match op S2 x y with
  | some z => .ok z S2
  | none => .no
def OpB (K : PySem.W.Frag) (r : R2) (op : Op2) : Prop := ∀ (S : Store) (H Hf : Hp) (μ : List Addr) (x y : V) (a b c : D) (Q : VK), StoOk K S H Hf μ → Bor K H Hf μ a x → Bor K H Hf μ b y → op S a b = some c →
  (∀ v H' Hf' μ', Step H Hf μ H' Hf' μ' → StoOk K S H' Hf' μ' → Rep K μ' Hf' c v → Q v H') → r x y H Q
section
variable {X : Cx} {W : WX} {a b : Expr} {fa fb : Ev D} {pos : Pos} {r : R2} {op : Op2}
theorem tE_bin2 {K : PySem.W.Frag} (hop : OpB K r op) {σ : L2.St} {H : Hp} {Q : VK} (q : tE K W (eBin2 op fa fb) σ H Q) : tOp r (tBo K W fa) (tBo K W fb) σ H Q := by
  obtain ⟨Γ, S, Hf, μ, sl, so, o⟩ := q
  refine ⟨Γ, S, Hf, μ, sl, so, Out.bind sl rm_rep o fun x S1 v H1 Hf1 μ1 _ s1 sl1 so1 r1 o1 => ?_⟩
  refine ⟨Γ, S1, Hf1, μ1, sl1, so1, Out.bind sl1 rm_rep o1 fun y S2 u H2 Hf2 μ2 _ s2 sl2 so2 r2 o2 => ?_⟩
  cases e : op S2 x y with
  | none => rw [e] at o2; exact o2.elim
  | some z =>
    rw [e] at o2
    exact hop S2 H2 Hf2 μ2 v u x y z Q so2 (BorR.bor sl2 (BorR.keep (H0' := H) s2 r1)) (BorR.bor sl2 r2) e o2
theorem de_op2 {o : Operator} (ho : OpR X (binaryOp o) r) (hop : OpB X.K r op) (ha : DB X W a fa) (hb : DB X W b fb) : DE X W (.BinOp a o b pos) (eBin2 op fa fb) :=
  PE_imp (pe_op ho ha hb) fun _ _ _ => tE_bin2 hop
theorem de_cmp2 {o : CmpOp} (ho : OpR X (compareOp o) r) (hop : OpB X.K r op) (ha : DB X W a fa) (hb : DB X W b fb) (hm : behindInMarks o b = false := by rfl) : DE X W (.Compare a [o] [b] pos) (eBin2 op fa fb) :=
  PE_imp (pe_cmpR ho ha hb hm) fun _ _ _ => tE_bin2 hop
theorem dt_cmp2 {o : CmpOp} (ho : OpR X (compareOp o) r) (hop : OpB X.K r op) (ha : DB X W a fa) (hb : DB X W b fb) (hm : behindInMarks o b = false := by rfl) : DT X W (.Compare a [o] [b] pos) (toB (eBin2 op fa fb)) := by
  refine PT_imp (pt_cmpR ho ha hb hm) fun σ H Q q => ?_
  obtain ⟨Γ, S, Hf, μ, sl, so, o⟩ := tE_toB q
  exact tE_bin2 hop ⟨Γ, S, Hf, μ, sl, so, o⟩
theorem OpB.or {K : PySem.W.Frag} {r r' : R2} {op : Op2} {c : Store → D → D → Bool} (h : OpB K r (fun S a b => if c S a b then op S a b else none)) (h' : OpB K r' (fun S a b => if c S a b then none else op S a b)) : OpB K (fun x y H Q => r x y H Q ∨ r' x y H Q) op := by
  intro S H Hf μ x y a b d Q so bx by_ e k
  cases e2 : c S a b with
  | true => exact .inl (h S H Hf μ x y a b d Q so bx by_ (by simp only [e2, if_true]; exact e) k)
  | false => exact .inr (h' S H Hf μ x y a b d Q so bx by_ (by simp only [e2]; exact e) k)
end
section
variable {K : PySem.W.Frag} {S : Store} {H Hf : Hp} {μ : List Addr} {x y : V} {a b c : D} {Q : VK}
theorem Bor.int {i : Int} (h : Bor K H Hf μ (.int i) x) : x = .int i := by
  rcases h with r | ⟨_, _, _, z, _⟩
  · simpa only [Rep] using r
  · cases z
theorem Bor.bl {i : Bool} (h : Bor K H Hf μ (.bl i) x) : x = .bl i := by
  rcases h with r | ⟨_, _, _, z, _⟩
  · simpa only [Rep] using r
  · cases z
theorem Bor.str {i : PySem.Str} (h : Bor K H Hf μ (.str i) x) : x = .str i := by
  rcases h with r | ⟨_, _, _, z, _⟩
  · simpa only [Rep] using r
  · cases z
theorem Bor.non (h : Bor K H Hf μ .non x) : x = .non := by
  rcases h with r | ⟨_, _, _, z, _⟩
  · simpa only [Rep] using r
  · cases z
theorem Bor.raw {w : V} (h : Bor K H Hf μ (.raw w) x) : x = w := by
  rcases h with r | ⟨_, _, _, z, _⟩
  · simpa only [Rep] using r
  · cases z
theorem Bor.tup {ds : List D} (h : Bor K H Hf μ (.tup ds) x) : ∃ a xs, x = V.ref a ∧ Hf a = some (.tup xs) ∧ xs.length ≤ sizeLine ∧ RepL K μ Hf ds xs := by
  rcases h with r | ⟨_, _, _, z, _⟩
  · simpa only [Rep] using r
  · cases z
theorem Bor.lst {ds : List D} (so : StoOk K S H Hf μ) (h : Bor K H Hf μ (.lst ds) x) : ∃ a xs, x = V.ref a ∧ H a = some (.lst xs) ∧ xs.length ≤ sizeLine ∧ RepL K μ Hf ds xs := by
  rcases h with r | ⟨es, a, xs, e, rfl, ha, z, rl⟩
  · simp only [Rep] at r
    obtain ⟨a, xs, e, q, z, rl⟩ := r
    exact ⟨a, xs, e, so.sub _ _ q, z, rl⟩
  · cases e
    exact ⟨a, xs, rfl, ha, z, rl⟩
/-- ints, an operation that always comes -/
theorem opB_int {g : Int → Int → V} {G : Int → Int → D} {C : Int → Int → Bool} {P : Int → Int → Prop} (hC : ∀ i j, C i j = true → P i j) (hg : ∀ i j μ Hf, Rep K μ Hf (G i j) (g i j)) :
    OpB K (rI P g) (fun _ a b => match a, b with | .int i, .int j => if C i j then some (G i j) else none | _, _ => none) := by
  intro S H Hf μ x y a b c Q so bx by_ e k
  cases a <;> cases b <;> first | (simp at e; done) | skip
  rename_i i j
  simp only at e
  split at e
  · cases e
    exact ⟨i, j, bx.int, by_.int, hC i j (by assumption), k _ H Hf μ (Step.refl _ _ _) so (hg i j μ Hf)⟩
  · cases e
theorem opB_int0 {g : Int → Int → V} {G : Int → Int → D} (hg : ∀ i j μ Hf, Rep K μ Hf (G i j) (g i j)) :
    OpB K (rI0 g) (fun _ a b => match a, b with | .int i, .int j => some (G i j) | _, _ => none) := by
  intro S H Hf μ x y a b c Q so bx by_ e k
  cases a <;> cases b <;> first | (simp at e; done) | skip
  rename_i i j
  cases e
  exact ⟨i, j, bx.int, by_.int, k _ H Hf μ (Step.refl _ _ _) so (hg i j μ Hf)⟩
end

/-! ### arithmetic -/
def mulOk (i j : Int) : Bool := (decide (-(2 ^ 64) < i) && decide (i < 2 ^ 64)) || (decide (-(2 ^ 64) < j) && decide (j < 2 ^ 64))
def divOk (_ j : Int) : Bool := decide (0 < j) && decide (j < 1073741824)
def powOk (i j : Int) : Bool := decide (0 ≤ j) && decide (j ≤ 1000000) && decide (i.natAbs < 2 ^ 64)
def oSub : Op2 := fun _ a b => match a, b with
  | .int i, .int j => some (.int (i - j))
  | _, _ => none
def oFdv : Op2 := fun _ a b => match a, b with
  | .int i, .int j => if divOk i j then some (.int (i / j)) else none
  | _, _ => none
def oMod : Op2 := fun _ a b => match a, b with
  | .int i, .int j => if decide (0 < j) then some (.int (i % j)) else none
  | _, _ => none
def oPow : Op2 := fun _ a b => match a, b with
  | .int i, .int j => if powOk i j then some (.int (i ^ j.toNat)) else none
  | _, _ => none
section
variable {X : Cx} {W : WX} {a b : Expr} {fa fb : Ev D} {pos : Pos}
theorem de_sub (ha : DB X W a fa) (hb : DB X W b fb) : DE X W (.BinOp a .Sub b pos) (eBin2 oSub fa fb) := de_op2 op_sub (opB_int0 fun _ _ _ _ => by simp only [Rep]) ha hb
theorem de_fdv (ha : DB X W a fa) (hb : DB X W b fb) : DE X W (.BinOp a .FloorDiv b pos) (eBin2 oFdv fa fb) :=
  de_op2 op_fdiv (opB_int (C := divOk) (G := fun i j => .int (i / j)) (fun i j h => by simpa [divOk, CDiv] using h) fun _ _ _ _ => by simp only [Rep]) ha hb
theorem de_mod (ha : DB X W a fa) (hb : DB X W b fb) : DE X W (.BinOp a .Mod b pos) (eBin2 oMod fa fb) :=
  de_op2 op_mod (opB_int (C := fun _ j => decide (0 < j)) (G := fun i j => .int (i % j)) (fun i j h => by simpa using h) fun _ _ _ _ => by simp only [Rep]) ha hb
theorem de_pow (ha : DB X W a fa) (hb : DB X W b fb) : DE X W (.BinOp a .Pow b pos) (eBin2 oPow fa fb) :=
  de_op2 op_pow (opB_int (C := powOk) (G := fun i j => .int (i ^ j.toNat)) (fun i j h => by simpa [powOk, CPow, and_assoc] using h) fun _ _ _ _ => by simp only [Rep]) ha hb
end
/-- +: ints, texts, tuples, lists -/
def oAdd : Op2 := fun _ a b => match a, b with
  | .int i, .int j => some (.int (i + j))
  | .str i, .str j => if i.length + j.length ≤ sizeLine then some (.str (i ++ j)) else none
  | .tup xs, .tup ys => if xs.length + ys.length ≤ sizeLine then some (.tup (xs ++ ys)) else none
  | .lst xs, .lst ys => if xs.length + ys.length ≤ sizeLine then some (.lst (xs ++ ys)) else none
  | _, _ => none
def rAdd4 (K : PySem.W.Frag) : R2 := fun x y H Q => ((rI0 (fun i j => .int (i + j))) x y H Q ∨ (∃ i j, x = .str i ∧ y = .str j ∧ i.length + j.length ≤ sizeLine ∧ Q (.str (i ++ j)) H)) ∨ (rCatA K x y H Q ∨ rCat x y H Q)
theorem opb_add {K : PySem.W.Frag} : OpB K (rAdd4 K) oAdd := by
  intro S H Hf μ x y a b c Q so bx by_ e k
  unfold oAdd at e
  cases a <;> cases b <;> first | (simp at e; done) | skip
  · rename_i i j
    cases e
    exact .inl (.inl ⟨i, j, bx.int, by_.int, k _ H Hf μ (Step.refl _ _ _) so (by simp only [Rep])⟩)
  · rename_i i j
    simp only at e
    split at e
    · cases e
      exact .inl (.inr ⟨i, j, bx.str, by_.str, by assumption, k _ H Hf μ (Step.refl _ _ _) so (by simp only [Rep])⟩)
    · cases e
  · rename_i xs ys
    simp only at e
    split at e
    next hz =>
      cases e
      obtain ⟨a1, vs, rfl, h1, z1, r1⟩ := bx.tup
      obtain ⟨a2, us, rfl, h2, z2, r2⟩ := by_.tup
      refine .inr (.inl ⟨a1, a2, vs, us, rfl, rfl, so.sub.tp h1, so.sub.tp h2, by rw [r1.length, r2.length]; exact hz, fun h => ?_, fun h1' h => ?_, fun _ _ p hp => ?_⟩)
      · refine k _ H Hf μ (Step.refl _ _ _) so ?_
        subst h
        have : xs = [] := List.eq_nil_of_length_eq_zero (by rw [← r1.length]; rfl)
        subst this
        simp only [Rep, List.nil_append]; exact ⟨a2, us, rfl, h2, z2, r2⟩
      · refine k _ H Hf μ (Step.refl _ _ _) so ?_
        subst h
        have : ys = [] := List.eq_nil_of_length_eq_zero (by rw [← r2.length]; rfl)
        subst this
        simp only [Rep, List.append_nil]; exact ⟨a1, vs, rfl, h1, z1, r1⟩
      · obtain ⟨st, so2⟩ := Step.lay (u := .tup (vs ++ us)) so hp
        refine k _ _ _ μ st so2 ?_
        simp only [Rep]
        exact ⟨p, _, rfl, upd_same, by rw [List.length_append, r1.length, r2.length]; exact hz, RepL.append (st.repL r1) (st.repL r2)⟩
    · cases e
  · rename_i xs ys
    simp only at e
    split at e
    next hz =>
      cases e
      obtain ⟨a1, vs, rfl, h1, z1, r1⟩ := bx.lst so
      obtain ⟨a2, us, rfl, h2, z2, r2⟩ := by_.lst so
      refine .inr (.inr ⟨a1, a2, vs, us, rfl, rfl, h1, h2, by rw [r1.length, r2.length]; exact hz, fun p hp => ?_⟩)
      obtain ⟨st, so2⟩ := Step.lay (u := .lst (vs ++ us)) so hp
      refine k _ _ _ μ st so2 ?_
      simp only [Rep]
      exact ⟨p, _, rfl, upd_same, by rw [List.length_append, r1.length, r2.length]; exact hz, RepL.append (st.repL r1) (st.repL r2)⟩
    · cases e
/-- *: ints; a tuple so many times -/
def oMul : Op2 := fun _ a b => match a, b with
  | .int i, .int j => if mulOk i j then some (.int (i * j)) else none
  | .tup xs, .int k => if k = 1 then some (.tup xs) else if decide (2 ≤ k) && decide (k ≤ 1000) && decide (xs.length ≤ 1000) && !xs.isEmpty then some (.tup (List.replicate k.toNat xs).flatten) else none
  | _, _ => none
theorem flat_len {α : Type} (n : Nat) (xs : List α) : (List.replicate n xs).flatten.length = n * xs.length := by
  induction n with
  | zero => simp
  | succ n ih => rw [List.replicate_succ, List.flatten_cons, List.length_append, ih, Nat.succ_mul, Nat.add_comm]
theorem RepL.repl {K : PySem.W.Frag} {μ : List Addr} {Hf : Hp} {ds : List D} {vs : List V} (r : RepL K μ Hf ds vs) : ∀ n : Nat, RepL K μ Hf (List.replicate n ds).flatten (List.replicate n vs).flatten
  | 0 => RepL.nil
  | n + 1 => by
    rw [List.replicate_succ, List.replicate_succ, List.flatten_cons, List.flatten_cons]
    exact RepL.append r (RepL.repl r n)
theorem opb_mul {K : PySem.W.Frag} : OpB K (fun x y H Q => ((rI CMul fun i j => .int (i * j)) x y H Q ∨ rRepT K x y H Q) ∨ rRep1 K x y H Q) oMul := by
  intro S H Hf μ x y a b c Q so bx by_ e k
  unfold oMul at e
  cases a <;> cases b <;> first | (simp at e; done) | skip
  · rename_i i j
    simp only at e
    split at e
    next h =>
      cases e
      exact .inl (.inl ⟨i, j, bx.int, by_.int, by simpa [mulOk, CMul] using h, k _ H Hf μ (Step.refl _ _ _) so (by simp only [Rep])⟩)
    · cases e
  · rename_i xs n
    simp only at e
    split at e
    next h =>
      cases e
      subst h
      obtain ⟨a1, vs, rfl, q1, z1, r1⟩ := bx.tup
      exact .inr ⟨a1, vs, rfl, by_.int, so.sub.tp q1, k _ H Hf μ (Step.refl _ _ _) so (by simp only [Rep]; exact ⟨a1, vs, rfl, q1, z1, r1⟩)⟩
    split at e
    next h =>
      cases e
      simp only [Bool.and_eq_true, decide_eq_true_eq, Bool.not_eq_true', List.isEmpty_eq_false_iff] at h
      obtain ⟨⟨⟨h1, h2⟩, h3⟩, h4⟩ := h
      obtain ⟨a1, vs, rfl, q1, z1, r1⟩ := bx.tup
      refine .inl (.inr ⟨a1, n, vs, rfl, by_.int, so.sub.tp q1, fun z => ?_, h1, h2, by rw [r1.length]; exact h3, fun p hp => ?_⟩)
      · subst z
        exact h4 (List.eq_nil_of_length_eq_zero (by rw [← r1.length]; rfl))
      · obtain ⟨st, so2⟩ := Step.lay (u := .tup (List.replicate n.toNat vs).flatten) so hp
        refine k _ _ _ μ st so2 ?_
        simp only [Rep]
        refine ⟨p, _, rfl, upd_same, ?_, RepL.repl (st.repL r1) _⟩
        rw [flat_len, r1.length]
        have : n.toNat * xs.length ≤ 1000 * 1000 := Nat.mul_le_mul (by omega) h3
        rw [sizeLine_eq]; omega
    · cases e
section
variable {X : Cx} {W : WX} {a b : Expr} {fa fb : Ev D} {pos : Pos}
theorem de_add (ha : DB X W a fa) (hb : DB X W b fb) : DE X W (.BinOp a .Add b pos) (eBin2 oAdd fa fb) := de_op2 ((op_add.or op_add_str).or (op_catA.or op_cat)) opb_add ha hb
theorem de_mul (ha : DB X W a fa) (hb : DB X W b fb) : DE X W (.BinOp a .Mult b pos) (eBin2 oMul fa fb) := de_op2 ((op_mul.or op_repT).or op_rep1) opb_mul ha hb
end

/-! ### comparisons -/
def intsOf : List D → Option (List Int)
  | [] => some []
  | .int i :: ds => (intsOf ds).map (i :: ·)
  | _ => none
theorem ints_of {K : PySem.W.Frag} {μ : List Addr} {Hf : Hp} : ∀ {ds : List D} {vs : List V} {ns : List Int}, RepL K μ Hf ds vs → intsOf ds = some ns → vs = ns.map V.int
  | [], vs, ns, r, e => by simp only [RepL] at r; simp only [intsOf, Option.some.injEq] at e; subst r e; rfl
  | d :: ds, vs, ns, r, e => by
    simp only [RepL] at r
    obtain ⟨x, xs, rfl, q, rl⟩ := r
    cases d <;> first | (simp [intsOf] at e; done) | skip
    rename_i i
    simp only [intsOf] at e
    cases e2 : intsOf ds with
    | none => rw [e2] at e; cases e
    | some ms =>
      rw [e2] at e
      cases e
      simp only [Rep] at q
      subst q
      rw [ints_of rl e2]
      rfl
/-- <: ints; tuples of ints -/
def oLt : Op2 := fun _ a b => match a, b with
  | .int i, .int j => some (.bl (decide (i < j)))
  | .tup xs, .tup ys => match intsOf xs, intsOf ys with
    | some ns, some ms => some (.bl (HT.lexLt ns ms))
    | _, _ => none
  | _, _ => none
theorem opb_lt {K : PySem.W.Frag} : OpB K (fun x y H Q => (rI0 fun i j => .bl (decide (i < j))) x y H Q ∨ rLtT K x y H Q) oLt := by
  intro S H Hf μ x y a b c Q so bx by_ e k
  unfold oLt at e
  cases a <;> cases b <;> first | (simp at e; done) | skip
  · rename_i i j
    cases e
    exact .inl ⟨i, j, bx.int, by_.int, k _ H Hf μ (Step.refl _ _ _) so (by simp only [Rep])⟩
  · rename_i xs ys
    simp only at e
    cases e1 : intsOf xs with
    | none => rw [e1] at e; cases e
    | some ns =>
      cases e2 : intsOf ys with
      | none => rw [e1, e2] at e; cases e
      | some ms =>
        rw [e1, e2] at e
        cases e
        obtain ⟨a1, vs, rfl, h1, z1, r1⟩ := bx.tup
        obtain ⟨a2, us, rfl, h2, z2, r2⟩ := by_.tup
        have q1 := ints_of r1 e1
        have q2 := ints_of r2 e2
        subst q1 q2
        exact .inr ⟨a1, a2, ns, ms, rfl, rfl, so.sub.tp h1, so.sub.tp h2, k _ H Hf μ (Step.refl _ _ _) so (by simp only [Rep])⟩
def oLe : Op2 := fun _ a b => match a, b with
  | .int i, .int j => some (.bl (decide (i ≤ j)))
  | _, _ => none
def oGt : Op2 := fun _ a b => match a, b with
  | .int i, .int j => some (.bl (decide (j < i)))
  | _, _ => none
def oGe : Op2 := fun _ a b => match a, b with
  | .int i, .int j => some (.bl (decide (j ≤ i)))
  | _, _ => none
theorem opb_le {K : PySem.W.Frag} : OpB K (rI0 fun i j => .bl (decide (i ≤ j))) oLe := opB_int0 fun _ _ _ _ => by simp only [Rep]
theorem opb_gt {K : PySem.W.Frag} : OpB K (rI0 fun i j => .bl (decide (j < i))) oGt := opB_int0 fun _ _ _ _ => by simp only [Rep]
theorem opb_ge {K : PySem.W.Frag} : OpB K (rI0 fun i j => .bl (decide (j ≤ i))) oGe := opB_int0 fun _ _ _ _ => by simp only [Rep]
/-- ==: ints, texts at once; all else as data -/
def eqData (S : Store) (a b : D) : Option Bool := match a, b with
  | .int i, .int j => some (decide (i = j))
  | .str i, .str j => some (decide (i = j))
  | .bl i, .bl j => some (decide (i = j))
  | _, _ => match pyS S a, pyS S b with
    | some p, some q => if SeqAt.shaped p && SeqAt.shaped q then some (PyData.eqv p q) else none
    | _, _ => none
def oEq : Op2 := fun S a b => (eqData S a b).map .bl
def oNe : Op2 := fun S a b => (eqData S a b).map fun k => .bl (!k)
theorem eqData_cases {K : PySem.W.Frag} {S : Store} {H Hf : Hp} {μ : List Addr} {x y : V} {a b : D} {k : Bool} (so : StoOk K S H Hf μ) (bx : Bor K H Hf μ a x) (by_ : Bor K H Hf μ b y) (e : eqData S a b = some k) :
    (scal x y = true ∧ k = decide (x = y)) ∨ ∃ p q, Dp K H x p ∧ Dp K H y q ∧ SeqAt.shaped p = true ∧ SeqAt.shaped q = true ∧ k = PyData.eqv p q := by
  unfold eqData at e
  split at e
  · cases e
    have h1 := bx.int
    have h2 := by_.int
    subst h1 h2
    exact .inl ⟨rfl, by simp⟩
  · cases e
    have h1 := bx.str
    have h2 := by_.str
    subst h1 h2
    exact .inl ⟨rfl, by simp⟩
  · cases e
    have h1 := bx.bl
    have h2 := by_.bl
    subst h1 h2
    exact .inl ⟨rfl, by simp⟩
  · split at e
    next p q e1 e2 =>
      split at e
      next h =>
        cases e
        simp only [Bool.and_eq_true] at h
        exact .inr ⟨p, q, bor_dp so bx e1, bor_dp so by_ e2, h.1, h.2, rfl⟩
      · cases e
    · cases e
theorem opb_eq {K : PySem.W.Frag} : OpB K (fun x y H Q => rEq x y H Q ∨ rEqD K x y H Q) oEq := by
  intro S H Hf μ x y a b c Q so bx by_ e k
  unfold oEq at e
  cases e2 : eqData S a b with
  | none => rw [e2] at e; cases e
  | some t =>
    rw [e2] at e
    cases e
    rcases eqData_cases so bx by_ e2 with ⟨h1, rfl⟩ | ⟨p, q, h1, h2, h3, h4, rfl⟩
    · exact .inl ⟨h1, k _ H Hf μ (Step.refl _ _ _) so (by simp only [Rep])⟩
    · exact .inr ⟨p, q, h1, h2, h3, h4, k _ H Hf μ (Step.refl _ _ _) so (by simp only [Rep])⟩
theorem opb_ne {K : PySem.W.Frag} : OpB K (fun x y H Q => rNe x y H Q ∨ rNeD K x y H Q) oNe := by
  intro S H Hf μ x y a b c Q so bx by_ e k
  unfold oNe at e
  cases e2 : eqData S a b with
  | none => rw [e2] at e; cases e
  | some t =>
    rw [e2] at e
    cases e
    rcases eqData_cases so bx by_ e2 with ⟨h1, rfl⟩ | ⟨p, q, h1, h2, h3, h4, rfl⟩
    · exact .inl ⟨h1, k _ H Hf μ (Step.refl _ _ _) so (by simp only [Rep])⟩
    · exact .inr ⟨p, q, h1, h2, h3, h4, k _ H Hf μ (Step.refl _ _ _) so (by simp only [Rep])⟩
/-- is None -/
def isNon : D → Bool
  | .non => true
  | _ => false
def oIsN : Op2 := fun _ a b => match a, b with
  | .raw _, _ => none
  | a, .non => some (.bl (isNon a))
  | _, _ => none
def oNotN : Op2 := fun _ a b => match a, b with
  | .raw _, _ => none
  | a, .non => some (.bl (!isNon a))
  | _, _ => none
theorem isNon_of {K : PySem.W.Frag} {H Hf : Hp} {μ : List Addr} {x : V} {a : D} (bx : Bor K H Hf μ a x) (h : ∀ w, a ≠ .raw w) : isNon a = decide (x = .non) := by
  rcases bx with r | ⟨ds, p, xs, rfl, rfl, _⟩
  · cases a with
    | non => simp only [Rep] at r; subst r; rfl
    | bl b => simp only [Rep] at r; subst r; rfl
    | int b => simp only [Rep] at r; subst r; rfl
    | str b => simp only [Rep] at r; subst r; rfl
    | raw w => exact absurd rfl (h w)
    | loc n => simp only [Rep] at r; obtain ⟨p, rfl, _⟩ := r; rfl
    | _ => simp only [Rep] at r; obtain ⟨p, xs, rfl, _⟩ := r; rfl
  · rfl
theorem opb_isN {K : PySem.W.Frag} : OpB K (fun x y H Q => y = .non ∧ Q (.bl (decide (x = .non))) H) oIsN := by
  intro S H Hf μ x y a b c Q so bx by_ e k
  unfold oIsN at e
  split at e
  · cases e
  next h =>
    cases e
    exact ⟨by_.non, k _ H Hf μ (Step.refl _ _ _) so (by simp only [Rep]; rw [isNon_of bx (fun w => h w)])⟩
  · cases e
theorem opb_notN {K : PySem.W.Frag} : OpB K (fun x y H Q => y = .non ∧ Q (.bl (!decide (x = .non))) H) oNotN := by
  intro S H Hf μ x y a b c Q so bx by_ e k
  unfold oNotN at e
  split at e
  · cases e
  next h =>
    cases e
    exact ⟨by_.non, k _ H Hf μ (Step.refl _ _ _) so (by simp only [Rep]; rw [isNon_of bx (fun w => h w)])⟩
  · cases e
/-- in: flat items of a list or a tuple; data in a list -/
def flatD : D → Bool
  | .non => true
  | .bl _ => true
  | .int _ => true
  | .str _ => true
  | _ => false
def vOf : D → V
  | .bl b => .bl b
  | .int i => .int i
  | .str s => .str s
  | _ => .non
theorem flat_rep {K : PySem.W.Frag} {Hf : Hp} {μ : List Addr} {x : V} {a : D} (h : flatD a = true) (r : Rep K μ Hf a x) : x = vOf a ∧ flatV x = true := by
  cases a <;> first | (cases h; done) | skip
  all_goals
    simp only [Rep] at r
    subst r
    exact ⟨rfl, rfl⟩
theorem flats_rep {K : PySem.W.Frag} {Hf : Hp} {μ : List Addr} : ∀ {xs : List V} {ds : List D}, ds.all flatD = true → RepL K μ Hf ds xs → xs = ds.map vOf ∧ xs.all flatV = true
  | xs, [], _, r => by simp only [RepL] at r; subst r; exact ⟨rfl, rfl⟩
  | xs, d :: ds, h, r => by
    simp only [RepL] at r
    obtain ⟨x, ys, rfl, q, rl⟩ := r
    rw [List.all_cons, Bool.and_eq_true] at h
    obtain ⟨h1, h2⟩ := flat_rep h.1 q
    obtain ⟨h3, h4⟩ := flats_rep h.2 rl
    subst h1
    subst h3
    refine ⟨rfl, ?_⟩
    rw [List.all_cons, Bool.and_eq_true]
    exact ⟨h2, h4⟩
def inData (S : Store) (a b : D) : Option Bool := match viewL S b with
  | some ds => if flatD a && ds.all flatD then some (inV (vOf a) (ds.map vOf)) else match pyS S a, pyS S b with
    | some p, some (.list qs) => if SeqAt.shaped p && SeqAt.shaped (.list qs) then some (qs.any fun z => PyData.eqv z p) else none
    | _, _ => none
  | none => none
theorem inData_cases {K : PySem.W.Frag} {S : Store} {H Hf : Hp} {μ : List Addr} {x y : V} {a b : D} {k : Bool} (so : StoOk K S H Hf μ) (bx : Bor K H Hf μ a x) (by_ : Bor K H Hf μ b y) (e : inData S a b = some k) :
    (∃ p xs, y = .ref p ∧ (SqL K H p xs ∨ SqT K H p xs) ∧ flatV x = true ∧ xs.all flatV = true ∧ k = inV x xs) ∨ ∃ d ds, Dp K H x d ∧ Dp K H y (.list ds) ∧ SeqAt.shaped d = true ∧ SeqAt.shaped (.list ds) = true ∧ k = ds.any fun z => PyData.eqv z d := by
  unfold inData at e
  split at e
  next ds hv =>
    split at e
    next h =>
      cases e
      rw [Bool.and_eq_true] at h
      obtain ⟨p, xs, rfl, hq, _, rl⟩ := viewL_ok so by_ hv
      obtain ⟨h1, h2⟩ := flats_rep h.2 rl
      have rx : Rep K μ Hf a x := by
        rcases bx with r | ⟨es, _, _, rfl, _⟩
        · exact r
        · exact absurd h.1 (by simp [flatD])
      obtain ⟨h3, h4⟩ := flat_rep h.1 rx
      subst h1
      subst h3
      exact .inl ⟨p, _, rfl, hq, h4, h2, rfl⟩
    · split at e
      next p qs e1 e2 =>
        split at e
        next h =>
          cases e
          rw [Bool.and_eq_true] at h
          exact .inr ⟨p, qs, bor_dp so bx e1, bor_dp so by_ e2, h.1, h.2, rfl⟩
        · cases e
      · cases e
  · cases e
def oIn : Op2 := fun S a b => (inData S a b).map .bl
def oNin : Op2 := fun S a b => (inData S a b).map fun k => .bl (!k)
theorem opb_in {K : PySem.W.Frag} : OpB K (fun x y H Q => rIn K false x y H Q ∨ rInD K x y H Q) oIn := by
  intro S H Hf μ x y a b c Q so bx by_ e k
  unfold oIn at e
  cases e2 : inData S a b with
  | none => rw [e2] at e; cases e
  | some t =>
    rw [e2] at e
    cases e
    rcases inData_cases so bx by_ e2 with ⟨p, xs, h1, h2, h3, h4, rfl⟩ | ⟨p, q, h1, h2, h3, h4, rfl⟩
    · exact .inl ⟨p, xs, h1, h2, h3, h4, k _ H Hf μ (Step.refl _ _ _) so (by simp [Rep])⟩
    · exact .inr ⟨p, q, h1, h2, h3, h4, k _ H Hf μ (Step.refl _ _ _) so (by simp only [Rep])⟩
theorem opb_nin {K : PySem.W.Frag} : OpB K (fun x y H Q => rIn K true x y H Q ∨ rNotInD K x y H Q) oNin := by
  intro S H Hf μ x y a b c Q so bx by_ e k
  unfold oNin at e
  cases e2 : inData S a b with
  | none => rw [e2] at e; cases e
  | some t =>
    rw [e2] at e
    cases e
    rcases inData_cases so bx by_ e2 with ⟨p, xs, h1, h2, h3, h4, rfl⟩ | ⟨p, q, h1, h2, h3, h4, rfl⟩
    · exact .inl ⟨p, xs, h1, h2, h3, h4, k _ H Hf μ (Step.refl _ _ _) so (by simp [Rep])⟩
    · exact .inr ⟨p, q, h1, h2, h3, h4, k _ H Hf μ (Step.refl _ _ _) so (by simp only [Rep])⟩
end DL
set_option Elab.async false
set_option linter.all false
set_option maxRecDepth 100000
/-! DLg: subscripts, slices, built-in calls. -/
namespace DL
open PySem PySem.Spec PyProof.Rows L2

/-! ### lists of values under V and under D at the same places -/
theorem RepL.atI {K : PySem.W.Frag} {μ : List Addr} {Hf : Hp} {ds : List D} {xs : List V} {i : Int} {d : D} (r : RepL K μ Hf ds xs) (h : L2.atI ds i = some d) : ∃ v, L2.atI xs i = some v ∧ Rep K μ Hf d v := by
  unfold L2.atI at h ⊢
  rw [r.length]
  cases e : ixN ds.length i with
  | none => rw [e] at h; cases h
  | some j =>
    rw [e] at h
    exact r.get h
def cutD (ds : List D) (lo hi : Option Int) : List D := (ds.drop (HT.sIx ds.length 0 lo)).take (HT.sIx ds.length ds.length hi - HT.sIx ds.length 0 lo)
theorem RepL.cut {K : PySem.W.Frag} {μ : List Addr} {Hf : Hp} {ds : List D} {xs : List V} {lo hi : Option Int} (r : RepL K μ Hf ds xs) : RepL K μ Hf (cutD ds lo hi) (cutV xs lo hi) := by
  unfold cutD cutV
  rw [r.length]
  exact RepL.take _ (RepL.drop _ r)
theorem cutD_length (ds : List D) (lo hi : Option Int) : (cutD ds lo hi).length ≤ ds.length := by
  unfold cutD
  rw [List.length_take, List.length_drop]
  omega
theorem cutD_whole {ds : List D} {lo hi : Option Int} (h : HT.sIx ds.length 0 lo = 0 ∧ HT.sIx ds.length ds.length hi = ds.length) : cutD ds lo hi = ds := by
  unfold cutD
  rw [h.1, h.2]
  simp

/-! ### subscripts -/
def oIx : Op2 := fun S a b => match b with
  | .int i => match a with
    | .str z => if z.length ≤ sizeLine then (L2.atI z.cps.toList i).map fun c => .str ⟨#[c]⟩ else none
    | a => match viewL S a with
      | some ds => L2.atI ds i
      | none => none
  | _ => none
theorem opb_ix {K : PySem.W.Frag} : OpB K (rIx K) oIx := by
  intro S H Hf μ x y a b c Q so bx by_ e k
  unfold oIx at e
  cases b <;> first | (cases e; done) | skip
  rename_i i
  have hy := by_.int
  subst hy
  by_cases hs : ∃ z, a = .str z
  · obtain ⟨z, rfl⟩ := hs
    simp only at e
    split at e
    next hz =>
      cases e2 : L2.atI z.cps.toList i with
      | none => rw [e2] at e; cases e
      | some ch =>
        rw [e2] at e
        cases e
        exact .inr (.inr ⟨z, i, ch, bx.str, rfl, hz, e2, k _ H Hf μ (Step.refl _ _ _) so (by simp only [Rep])⟩)
    · cases e
  · have e' : (match viewL S a with | some ds => L2.atI ds i | none => none) = some c := by
      cases a <;> first | exact e | exact absurd ⟨_, rfl⟩ hs
    cases e2 : viewL S a with
    | none => rw [e2] at e'; cases e'
    | some ds =>
      rw [e2] at e'
      obtain ⟨p, xs, rfl, hq, _, rl⟩ := viewL_ok so bx e2
      obtain ⟨v, h1, h2⟩ := rl.atI e'
      rcases hq with hq | hq
      · exact .inl ⟨p, xs, i, v, rfl, rfl, hq, h1, k _ H Hf μ (Step.refl _ _ _) so h2⟩
      · exact .inr (.inl ⟨p, xs, i, v, rfl, rfl, hq, h1, k _ H Hf μ (Step.refl _ _ _) so h2⟩)
section
variable {X : Cx} {W : WX} {a b : Expr} {fa fb : Ev D} {pos p2 : Pos}
theorem de_ix (ha : DB X W a fa) (hb : DB X W b fb) (hs : PlainIx b := by intro _ _; rfl) : DE X W (.Subscript a b pos) (eBin2 oIx fa fb) :=
  PE_imp (pe_ix ix_seq ha hb hs) fun _ _ _ => tE_bin2 opb_ix

/-! ### slices -/
def tO (K : PySem.W.Frag) (W : WX) (f : Ev (Option Int)) : TO := fun σ H Q => ∃ Γ S Hf μ, SlOk K Γ σ H Hf μ ∧ StoOk K S H Hf μ ∧ Out K (EqR (Option Int)) W σ H Hf μ (f Γ S) Q
abbrev DO (X : Cx) (W : WX) (e : Option Expr) (f : Ev (Option Int)) : Prop := PO X e (tO X.K W f)
theorem PO_imp {X : Cx} {e : Option Expr} {t t' : TO} (h : PO X e t) (k : ∀ σ H Q, t' σ H Q → t σ H Q) : PO X e t' := ⟨fun pins s σ H Q I hq => h.run pins s σ H Q I (k σ H Q hq)⟩
def pNo : Ev (Option Int) := fun _ S => .ok none S
def pAt (f : Ev D) : Ev (Option Int) := fun Γ S => (f Γ S).bind fun d S1 => match d with
  | .int i => .ok (some i) S1
  | _ => .no
theorem do_no : DO X W none pNo := PO_imp po_none fun σ H Q ⟨Γ, S, Hf, μ, sl, so, o⟩ => o none H Hf μ (Step.refl _ _ _) so rfl
theorem do_at (h : DB X W a fa) : DO X W (some a) (pAt fa) :=
  PO_imp (po_some h) fun σ H Q ⟨Γ, S, Hf, μ, sl, so, o⟩ => ⟨Γ, S, Hf, μ, sl, so, Out.bind sl rm_eq o fun d S1 v H1 Hf1 μ1 _ s1 sl1 so1 r1 o1 => by
    have bx := BorR.bor sl1 r1
    cases d with
    | int i => exact ⟨i, bx.int, o1 (some i) H1 Hf1 μ1 (Step.refl _ _ _) so1 rfl⟩
    | _ => exact o1.elim⟩
/-- the items of a list -/
def viewLs (S : Store) : D → Option (List D)
  | .lst ds => some ds
  | .kst ds => some ds
  | .loc n => match S[n]? with
    | some (.lst ds) => some ds
    | _ => none
  | _ => none
theorem viewLs_ok {K : PySem.W.Frag} {S : Store} {H Hf : Hp} {μ : List Addr} {d : D} {v : V} {ds : List D} (so : StoOk K S H Hf μ) (b : Bor K H Hf μ d v) (h : viewLs S d = some ds) :
    ∃ a xs, v = V.ref a ∧ SqL K H a xs ∧ xs.length ≤ sizeLine ∧ RepL K μ Hf ds xs := by
  cases d with
  | lst es =>
    cases h
    obtain ⟨a, xs, e, q, z, rl⟩ := b.lst so
    exact ⟨a, xs, e, SqL.of q, z, rl⟩
  | kst es =>
    cases h
    rcases b with r | ⟨_, _, _, z, _⟩
    · simp only [Rep] at r
      obtain ⟨a, xs, e, q, z, rl⟩ := r
      exact ⟨a, xs, e, so.sub.sl q, z, rl⟩
    · cases z
  | loc n =>
    rcases b with r | ⟨_, _, _, z, _⟩
    · simp only [Rep] at r
      obtain ⟨a, e, q⟩ := r
      have h : (match S[n]? with | some (.lst ds) => some ds | _ => none : Option (List D)) = some ds := h
      cases e2 : S[n]? with
      | none => rw [e2] at h; cases h
      | some o =>
        rw [e2] at h
        cases o with
        | lst es =>
          cases h
          obtain ⟨u, h1, ⟨xs, rfl, z, r⟩⟩ := so.ob n _ a e2 q
          exact ⟨a, xs, e, SqL.of h1, z, r⟩
        | _ => cases h
    · cases z
  | _ => cases h
def slD (S : Store) (a : D) (lo hi : Option Int) : Option D := match a with
  | .str z => if z.length ≤ sizeLine then some (.str (cutS z lo hi)) else none
  | .tup ds => some (.tup (cutD ds lo hi))
  | a => (viewLs S a).map fun ds => .lst (cutD ds lo hi)
def eSl (f : Ev D) (lo hi : Ev (Option Int)) : Ev D := fun Γ S => (f Γ S).bind fun d S1 => (lo Γ S1).bind fun l S2 => (hi Γ S2).bind fun u S3 => match slD S3 d l u with
  | some z => .ok z S3
  | none => .no
def nSl (f : Ev D) (lo hi : Ev (Option Int)) : Ev SO := fun Γ S => (f Γ S).bind fun d S1 => (lo Γ S1).bind fun l S2 => (hi Γ S2).bind fun u S3 => match viewLs S3 d with
  | some ds => .ok (.lst (cutD ds l u)) S3
  | none => .no
def rSl3 (K : PySem.W.Frag) : V → Option Int → Option Int → Hp → VK → Prop := fun x lo hi H Q => (rSlL K x lo hi H Q ∨ rSlA K x lo hi H Q) ∨ rSlS x lo hi H Q
theorem slR3 : SlR X (rSl3 X.K) := (sl_list.or sl_tupA).or sl_str
theorem tE_sl {K : PySem.W.Frag} {fl fu : Ev (Option Int)} {σ : L2.St} {H : Hp} {Q : VK} (q : tE K W (eSl fa fl fu) σ H Q) : tSl (rSl3 K) (tBo K W fa) (tO K W fl) (tO K W fu) σ H Q := by
  obtain ⟨Γ, S, Hf, μ, sl, so, o⟩ := q
  refine ⟨Γ, S, Hf, μ, sl, so, Out.bind sl rm_rep o fun d S1 x H1 Hf1 μ1 _ s1 sl1 so1 r1 o1 => ?_⟩
  refine ⟨Γ, S1, Hf1, μ1, sl1, so1, Out.bind sl1 rm_rep o1 fun l S2 l' H2 Hf2 μ2 _ s2 sl2 so2 el o2 => ?_⟩
  obtain rfl : l = l' := el
  refine ⟨Γ, S2, Hf2, μ2, sl2, so2, Out.bind sl2 rm_rep o2 fun u S3 u' H3 Hf3 μ3 _ s3 sl3 so3 eu o3 => ?_⟩
  obtain rfl : u = u' := eu
  cases e : slD S3 d l u with
  | none => rw [e] at o3; exact o3.elim
  | some z =>
    rw [e] at o3
    have bx : Bor K H3 Hf3 μ3 d x := BorR.bor sl3 (BorR.keep (H0' := H) s3 (BorR.keep (H0' := H) s2 r1))
    have key : ∀ ds, viewLs S3 d = some ds → z = .lst (cutD ds l u) → rSl3 K x l u H3 Q := fun ds e2 ez => by
      subst ez
      obtain ⟨p, xs, rfl, hq, hz, rl⟩ := viewLs_ok so3 bx e2
      refine .inl (.inl ⟨p, xs, rfl, hq, fun q hq' => ?_⟩)
      obtain ⟨st, so4⟩ := Step.lay (u := .lst (cutV xs l u)) so3 hq'
      refine o3 _ _ _ μ3 st so4 ?_
      simp only [Rep]
      exact ⟨q, _, rfl, upd_same, Nat.le_trans (cutV_length xs l u) hz, (st.repL rl).cut⟩
    cases d with
    | str y =>
      have e : (if y.length ≤ sizeLine then some (D.str (cutS y l u)) else none) = some z := e
      split at e
      next hz =>
        cases e
        exact .inr ⟨y, bx.str, hz, o3 _ H3 Hf3 μ3 (Step.refl _ _ _) so3 (by simp only [Rep])⟩
      · cases e
    | tup ds =>
      cases e
      obtain ⟨p, xs, rfl, hq, hz, rl⟩ := bx.tup
      refine .inl (.inr ⟨p, xs, rfl, so3.sub.tp hq, fun h => ?_, fun h q hq' => ?_⟩)
      · refine o3 _ H3 Hf3 μ3 (Step.refl _ _ _) so3 ?_
        rw [rl.length] at h
        rw [cutD_whole h]
        simp only [Rep]
        exact ⟨p, xs, rfl, hq, hz, rl⟩
      · obtain ⟨st, so4⟩ := Step.lay (u := .tup (cutV xs l u)) so3 hq'
        refine o3 _ _ _ μ3 st so4 ?_
        simp only [Rep]
        exact ⟨q, _, rfl, upd_same, Nat.le_trans (cutV_length xs l u) hz, (st.repL rl).cut⟩
    | lst ds => cases e; exact key ds rfl rfl
    | kst ds => cases e; exact key ds rfl rfl
    | loc n =>
      have e : (viewLs S3 (.loc n)).map (fun ds => D.lst (cutD ds l u)) = some z := e
      cases e2 : viewLs S3 (.loc n) with
      | none => rw [e2] at e; cases e
      | some ds => rw [e2] at e; cases e; exact key ds e2 rfl
    | _ => cases e
theorem tN_sl {K : PySem.W.Frag} {fl fu : Ev (Option Int)} {σ : L2.St} {H : Hp} {Q : VK} (q : tN K W (nSl fa fl fu) σ H Q) : tSl (rSl3 K) (tBo K W fa) (tO K W fl) (tO K W fu) σ H Q := by
  obtain ⟨Γ, S, Hf, μ, sl, so, o⟩ := q
  refine ⟨Γ, S, Hf, μ, sl, so, Out.bind sl rm_new o fun d S1 x H1 Hf1 μ1 _ s1 sl1 so1 r1 o1 => ?_⟩
  refine ⟨Γ, S1, Hf1, μ1, sl1, so1, Out.bind sl1 rm_new o1 fun l S2 l' H2 Hf2 μ2 _ s2 sl2 so2 el o2 => ?_⟩
  obtain rfl : l = l' := el
  refine ⟨Γ, S2, Hf2, μ2, sl2, so2, Out.bind sl2 rm_new o2 fun u S3 u' H3 Hf3 μ3 _ s3 sl3 so3 eu o3 => ?_⟩
  obtain rfl : u = u' := eu
  cases e2 : viewLs S3 d with
  | none => rw [e2] at o3; exact o3.elim
  | some ds =>
    rw [e2] at o3
    obtain ⟨p, xs, rfl, hq, hz, rl⟩ := viewLs_ok so3 (BorR.bor sl3 (BorR.keep (H0' := H) s3 (BorR.keep (H0' := H) s2 r1))) e2
    refine .inl (.inl ⟨p, xs, rfl, hq, fun q hq' => ?_⟩)
    obtain ⟨st, so4, hf, hm⟩ := Step.layN (u := .lst (cutV xs l u)) so3 hq'
    exact o3 _ _ _ μ3 st so4 ⟨q, _, rfl, hq', upd_same, ⟨_, rfl, Nat.le_trans (cutV_length xs l u) hz, rl.cut⟩, hf, hm⟩
variable {lo hi : Option Expr} {fl fu : Ev (Option Int)}
theorem de_sl (ha : DB X W a fa) (hl : DO X W lo fl) (hu : DO X W hi fu) : DE X W (.Subscript a (.Slice lo hi none p2) pos) (eSl fa fl fu) := PE_imp (pe_slice slR3 ha hl hu) fun _ _ _ => tE_sl
theorem dn_sl (ha : DB X W a fa) (hl : DO X W lo fl) (hu : DO X W hi fu) : DN X W (.Subscript a (.Slice lo hi none p2) pos) (nSl fa fl fu) := PE_imp (pe_slice slR3 ha hl hu) fun _ _ _ => tN_sl
end

/-! ### arguments that are used at once -/
def BorL (K : PySem.W.Frag) (H Hf : Hp) (μ : List Addr) : List D → List V → Prop
  | [], vs => vs = []
  | d :: ds, vs => ∃ x r, vs = x :: r ∧ Bor K H Hf μ d x ∧ BorL K H Hf μ ds r
def BorLR (K : PySem.W.Frag) (σ : L2.St) (Γ : Gm) : RR (List D) (List V) := fun _ H Hf μ ds vs => Paired (fun d v => BorR K σ Γ H H Hf μ d v) ds vs
theorem rm_borL {K : PySem.W.Frag} {σ : L2.St} {Γ : Gm} : RMono (BorLR K σ Γ) := fun _ _ _ _ _ _ _ _ h => h
theorem borL_of {K : PySem.W.Frag} {Γ : Gm} {σ : L2.St} {H Hf : Hp} {μ : List Addr} (sl : SlOk K Γ σ H Hf μ) : ∀ {ds : List D} {vs : List V}, Paired (fun d v => BorR K σ Γ H H Hf μ d v) ds vs → BorL K H Hf μ ds vs
  | _, _, .nil => rfl
  | _, _, .cons h t => ⟨_, _, rfl, BorR.bor sl h, borL_of sl t⟩
def tAb (K : PySem.W.Frag) (W : WX) (f : Ev (List D)) : TA := fun σ H Q => ∃ Γ S Hf μ, SlOk K Γ σ H Hf μ ∧ StoOk K S H Hf μ ∧ Out K (BorLR K σ Γ) W σ H Hf μ (f Γ S) Q
abbrev DAb (X : Cx) (W : WX) (es : List Expr) (f : Ev (List D)) : Prop := PA X es (tAb X.K W f)
section
variable {X : Cx} {W : WX} {e : Expr} {es : List Expr} {f : Ev D} {g : Ev (List D)}
theorem dab_nil : DAb X W [] aNil := PA_imp pa_nil fun σ H Q ⟨Γ, S, Hf, μ, sl, so, o⟩ => o [] H Hf μ (Step.refl _ _ _) so .nil
theorem dab_cons (h : DB X W e f) (k : DAb X W es g) (hs : starEach (e :: es) X.env = (false, eval e X.env) :: starEach es X.env := by rfl) : DAb X W (e :: es) (aCons f g) :=
  PA_imp (pa_cons h k hs) fun σ H Q ⟨Γ, S, Hf, μ, sl, so, o⟩ => ⟨Γ, S, Hf, μ, sl, so, Out.bind sl rm_borL o fun d S1 v H1 Hf1 μ1 _ s1 sl1 so1 r1 o1 =>
    ⟨Γ, S1, Hf1, μ1, sl1, so1, Out.bind sl1 rm_borL o1 fun ds S2 vs H2 Hf2 μ2 _ s2 sl2 so2 r2 o2 => o2 (v :: vs) H2 Hf2 μ2 (Step.refl _ _ _) so2 (.cons (BorR.keep (H0' := H2) s2 r1) r2)⟩⟩
end
abbrev OpN := Store → List D → Option D
def eFn (op : OpN) (g : Ev (List D)) : Ev D := fun Γ S => (g Γ S).bind fun ds S1 => match op S1 ds with
  | some z => .ok z S1
  | none => .no
def nFn (op : Store → List D → Option SO) (g : Ev (List D)) : Ev SO := fun Γ S => (g Γ S).bind fun ds S1 => match op S1 ds with
  | some z => .ok z S1
  | none => .no
def CallB (K : PySem.W.Frag) (r : List V → Hp → VK → Prop) (op : OpN) : Prop := ∀ (S : Store) (H Hf : Hp) (μ : List Addr) (vs : List V) (ds : List D) (c : D) (Q : VK), StoOk K S H Hf μ → BorL K H Hf μ ds vs → op S ds = some c →
  (∀ v H' Hf' μ', Step H Hf μ H' Hf' μ' → StoOk K S H' Hf' μ' → Rep K μ' Hf' c v → Q v H') → r vs H Q
def CallN (K : PySem.W.Frag) (r : List V → Hp → VK → Prop) (op : Store → List D → Option SO) : Prop := ∀ (S : Store) (H Hf : Hp) (μ : List Addr) (vs : List V) (ds : List D) (c : SO) (Q : VK), StoOk K S H Hf μ → BorL K H Hf μ ds vs → op S ds = some c →
  (∀ v H' Hf' μ', Step H Hf μ H' Hf' μ' → StoOk K S H' Hf' μ' → NewR K H H' Hf' μ' c v → Q v H') → r vs H Q
section
variable {X : Cx} {W : WX} {e : Expr} {es : List Expr} {g : Ev (List D)} {p pos : Pos} {x : PySem.Str} {id T : String} {r : List V → Hp → VK → Prop} {op : OpN} {opn : Store → List D → Option SO}
theorem tE_fn {K : PySem.W.Frag} (hop : CallB K r op) {σ : L2.St} {H : Hp} {Q : VK} (q : tE K W (eFn op g) σ H Q) : tCB r (tAb K W g) σ H Q := by
  obtain ⟨Γ, S, Hf, μ, sl, so, o⟩ := q
  refine ⟨Γ, S, Hf, μ, sl, so, Out.bind sl rm_rep o fun ds S1 vs H1 Hf1 μ1 _ s1 sl1 so1 r1 o1 => ?_⟩
  cases e : op S1 ds with
  | none => rw [e] at o1; exact o1.elim
  | some z => rw [e] at o1; exact hop S1 H1 Hf1 μ1 vs ds z Q so1 (borL_of sl1 r1) e o1
theorem tN_fn {K : PySem.W.Frag} (hop : CallN K r opn) {σ : L2.St} {H : Hp} {Q : VK} (q : tN K W (nFn opn g) σ H Q) : tCB r (tAb K W g) σ H Q := by
  obtain ⟨Γ, S, Hf, μ, sl, so, o⟩ := q
  refine ⟨Γ, S, Hf, μ, sl, so, Out.bind sl rm_new o fun ds S1 vs H1 Hf1 μ1 _ s1 sl1 so1 r1 o1 => ?_⟩
  cases e : opn S1 ds with
  | none => rw [e] at o1; exact o1.elim
  | some z => rw [e] at o1; exact hop S1 H1 Hf1 μ1 vs ds z Q so1 (borL_of sl1 r1) e o1
theorem de_bi (hc : CallR X (.builtin id) r) (hop : CallB X.K r op) (hg : Gl X x) (hm : X.mg x = none) (hv : bootBuiltins x = some (.builtin id)) (ha : DAb X W (e :: es) g) (hn : x ≠ "__name__" := by decide) (hdb : (x == ("__debug__" : PySem.Str)) = false := by decide)
    (he : starEach (e :: es) X.env = (false, eval e X.env) :: starEach es X.env := by rfl) (hpl : (backTo pos (starEach es X.env)).any (·.1) = false := by rfl) : DE X W (.Call (.Name x p) (e :: es) [] pos) (eFn op g) :=
  PE_imp (pe_callB hc hg hm hv ha hn hdb he hpl) fun _ _ _ => tE_fn hop
theorem de_ty (hc : CallR X (.type T) r) (hop : CallB X.K r op) (hg : Gl X x) (hm : X.mg x = none) (hv : bootBuiltins x = some (.type T)) (ha : DAb X W (e :: es) g) (hn : x ≠ "__name__" := by decide) (hdb : (x == ("__debug__" : PySem.Str)) = false := by decide)
    (he : starEach (e :: es) X.env = (false, eval e X.env) :: starEach es X.env := by rfl) (hpl : (backTo pos (starEach es X.env)).any (·.1) = false := by rfl) : DE X W (.Call (.Name x p) (e :: es) [] pos) (eFn op g) :=
  PE_imp (pe_callTy hc hg hm hv ha hn hdb he hpl) fun _ _ _ => tE_fn hop
theorem dn_bi (hc : CallR X (.builtin id) r) (hop : CallN X.K r opn) (hg : Gl X x) (hm : X.mg x = none) (hv : bootBuiltins x = some (.builtin id)) (ha : DAb X W (e :: es) g) (hn : x ≠ "__name__" := by decide) (hdb : (x == ("__debug__" : PySem.Str)) = false := by decide)
    (he : starEach (e :: es) X.env = (false, eval e X.env) :: starEach es X.env := by rfl) (hpl : (backTo pos (starEach es X.env)).any (·.1) = false := by rfl) : DN X W (.Call (.Name x p) (e :: es) [] pos) (nFn opn g) :=
  PE_imp (pe_callB hc hg hm hv ha hn hdb he hpl) fun _ _ _ => tN_fn hop
theorem dn_ty (hc : CallR X (.type T) r) (hop : CallN X.K r opn) (hg : Gl X x) (hm : X.mg x = none) (hv : bootBuiltins x = some (.type T)) (ha : DAb X W (e :: es) g) (hn : x ≠ "__name__" := by decide) (hdb : (x == ("__debug__" : PySem.Str)) = false := by decide)
    (he : starEach (e :: es) X.env = (false, eval e X.env) :: starEach es X.env := by rfl) (hpl : (backTo pos (starEach es X.env)).any (·.1) = false := by rfl) : DN X W (.Call (.Name x p) (e :: es) [] pos) (nFn opn g) :=
  PE_imp (pe_callTy hc hg hm hv ha hn hdb he hpl) fun _ _ _ => tN_fn hop
end

/-! ### the built-ins -/
section
variable {K : PySem.W.Frag}
theorem BorL.one {H Hf : Hp} {μ : List Addr} {d : D} {vs : List V} (b : BorL K H Hf μ [d] vs) : ∃ x, vs = [x] ∧ Bor K H Hf μ d x := by
  obtain ⟨x, r, rfl, h, e⟩ := b
  exact ⟨x, by rw [show r = [] from e], h⟩
theorem BorL.two {H Hf : Hp} {μ : List Addr} {d d' : D} {vs : List V} (b : BorL K H Hf μ [d, d'] vs) : ∃ x y, vs = [x, y] ∧ Bor K H Hf μ d x ∧ Bor K H Hf μ d' y := by
  obtain ⟨x, r, rfl, h, k⟩ := b
  obtain ⟨y, rfl, h2⟩ := BorL.one k
  exact ⟨x, y, rfl, h, h2⟩
/-- one argument -/
def op1 (f : Store → D → Option D) : OpN := fun S ds => match ds with
  | [d] => f S d
  | _ => none
def op2 (f : Store → D → D → Option D) : OpN := fun S ds => match ds with
  | [d, c] => f S d c
  | _ => none
theorem callB_one {r : List V → Hp → VK → Prop} {f : Store → D → Option D} (h : ∀ (S : Store) (H Hf : Hp) (μ : List Addr) (x : V) (d c : D) (Q : VK), StoOk K S H Hf μ → Bor K H Hf μ d x → f S d = some c →
    (∀ v H' Hf' μ', Step H Hf μ H' Hf' μ' → StoOk K S H' Hf' μ' → Rep K μ' Hf' c v → Q v H') → r [x] H Q) : CallB K r (op1 f) := by
  intro S H Hf μ vs ds c Q so b e k
  unfold op1 at e
  split at e
  · obtain ⟨x, rfl, bx⟩ := b.one
    exact h S H Hf μ x _ c Q so bx e k
  · cases e
theorem callB_two {r : List V → Hp → VK → Prop} {f : Store → D → D → Option D} (h : ∀ (S : Store) (H Hf : Hp) (μ : List Addr) (x y : V) (d d' c : D) (Q : VK), StoOk K S H Hf μ → Bor K H Hf μ d x → Bor K H Hf μ d' y → f S d d' = some c →
    (∀ v H' Hf' μ', Step H Hf μ H' Hf' μ' → StoOk K S H' Hf' μ' → Rep K μ' Hf' c v → Q v H') → r [x, y] H Q) : CallB K r (op2 f) := by
  intro S H Hf μ vs ds c Q so b e k
  unfold op2 at e
  split at e
  · obtain ⟨x, y, rfl, bx, by_⟩ := b.two
    exact h S H Hf μ x y _ _ c Q so bx by_ e k
  · cases e
/-- len -/
def lenD (S : Store) (d : D) : Option D := match d with
  | .str y => if y.length ≤ sizeLine then some (.int (y.length : Nat)) else none
  | d => (viewL S d).map fun ds => .int (ds.length : Nat)
def bLen : OpN := op1 lenD
theorem cb_len : CallB K (fun xs H Q => ∃ x n, xs = [x] ∧ LenV K x H n ∧ Q (.int n) H) bLen := callB_one fun S H Hf μ x d c Q so bx e k => by
  have key : ∀ ds, viewL S d = some ds → c = .int (ds.length : Nat) → ∃ x' n, [x] = [x'] ∧ LenV K x' H n ∧ Q (.int n) H := fun ds e2 ec => by
    subst ec
    obtain ⟨p, xs, rfl, hq, _, rl⟩ := viewL_ok so bx e2
    refine ⟨.ref p, xs.length, rfl, ?_, ?_⟩
    · exact hq.elim (fun q => .inl ⟨xs, q, rfl⟩) fun q => .inr ⟨xs, q, rfl⟩
    · rw [rl.length]
      exact k _ H Hf μ (Step.refl _ _ _) so (by simp only [Rep])
  by_cases hs : ∃ y, d = .str y
  · obtain ⟨y, rfl⟩ := hs
    have e : (if y.length ≤ sizeLine then some (D.int (y.length : Nat)) else none) = some c := e
    split at e
    next hz => cases e; exact ⟨x, y.length, rfl, by rw [bx.str]; exact ⟨hz, rfl⟩, k _ H Hf μ (Step.refl _ _ _) so (by simp only [Rep])⟩
    · cases e
  · have e' : (viewL S d).map (fun ds => D.int (ds.length : Nat)) = some c := by
      cases d <;> first | exact e | exact absurd ⟨_, rfl⟩ hs
    cases e2 : viewL S d with
    | none => rw [e2] at e'; cases e'
    | some ds => rw [e2] at e'; cases e'; exact key ds e2 rfl
/-- abs, int -/
def bAbs : OpN := op1 fun _ d => match d with
  | .int i => some (.int (if i < 0 then -i else i))
  | _ => none
theorem cb_abs : CallB K (fun xs H Q => ∃ i, xs = [.int i] ∧ Q (.int (if i < 0 then -i else i)) H) bAbs := callB_one fun S H Hf μ x d c Q so bx e k => by
  cases d <;> first | (cases e; done) | skip
  cases e
  exact ⟨_, by rw [bx.int], k _ H Hf μ (Step.refl _ _ _) so (by simp only [Rep])⟩
def bInt : OpN := op1 fun _ d => match d with
  | .int i => some (.int i)
  | .bl b => some (.int (if b then 1 else 0))
  | _ => none
theorem cb_int : CallB K (fun xs H Q => (∃ i, xs = [.int i] ∧ Q (.int i) H) ∨ ∃ k, xs = [.bl k] ∧ Q (.int (if k then 1 else 0)) H) bInt := callB_one fun S H Hf μ x d c Q so bx e k => by
  cases d <;> first | (cases e; done) | skip
  · cases e
    exact .inr ⟨_, by rw [bx.bl], k _ H Hf μ (Step.refl _ _ _) so (by simp only [Rep])⟩
  · cases e
    exact .inl ⟨_, by rw [bx.int], k _ H Hf μ (Step.refl _ _ _) so (by simp only [Rep])⟩
/-- max, min of two; divmod -/
def bMax2 : OpN := op2 fun _ a b => match a, b with
  | .int i, .int j => some (.int (if j > i then j else i))
  | _, _ => none
theorem cb_max2 : CallB K (fun xs H Q => ∃ i j, xs = [.int i, .int j] ∧ Q (.int (if j > i then j else i)) H) bMax2 := callB_two fun S H Hf μ x y d d' c Q so bx by_ e k => by
  cases d <;> first | (cases e; done) | skip
  cases d' <;> first | (cases e; done) | skip
  cases e
  exact ⟨_, _, by rw [bx.int, by_.int], k _ H Hf μ (Step.refl _ _ _) so (by simp only [Rep])⟩
def bMin2 : OpN := op2 fun _ a b => match a, b with
  | .int i, .int j => some (.int (if j < i then j else i))
  | _, _ => none
theorem cb_min2 : CallB K (fun xs H Q => ∃ i j, xs = [.int i, .int j] ∧ Q (.int (if j < i then j else i)) H) bMin2 := callB_two fun S H Hf μ x y d d' c Q so bx by_ e k => by
  cases d <;> first | (cases e; done) | skip
  cases d' <;> first | (cases e; done) | skip
  cases e
  exact ⟨_, _, by rw [bx.int, by_.int], k _ H Hf μ (Step.refl _ _ _) so (by simp only [Rep])⟩
def bDm : OpN := op2 fun _ a b => match a, b with
  | .int i, .int j => if divOk i j then some (.tup [.int (i / j), .int (i % j)]) else none
  | _, _ => none
theorem cb_dm : CallB K (fun xs H Q => ∃ i j, xs = [.int i, .int j] ∧ CDiv i j ∧ ∀ p, H p = none → Q (.ref p) (upd H p (.tup [.int (i / j), .int (i % j)]))) bDm := callB_two fun S H Hf μ x y d d' c Q so bx by_ e k => by
  cases d <;> first | (cases e; done) | skip
  cases d' <;> first | (cases e; done) | skip
  rename_i i j
  have e : (if divOk i j then some (D.tup [.int (i / j), .int (i % j)]) else none) = some c := e
  split at e
  next h =>
    cases e
    refine ⟨i, j, by rw [bx.int, by_.int], by simpa [divOk, CDiv] using h, fun p hp => ?_⟩
    obtain ⟨st, so2⟩ := Step.lay (u := .tup [.int (i / j), .int (i % j)]) so hp
    refine k _ _ _ μ st so2 ?_
    simp only [Rep]
    exact ⟨p, _, rfl, upd_same, by show 2 ≤ sizeLine; rw [sizeLine_eq]; decide, RepL.cons (by simp only [Rep]) (RepL.cons (by simp only [Rep]) RepL.nil)⟩
  · cases e
/-- all, any, sum of a list -/
def blsOf : List D → Option (List Bool)
  | [] => some []
  | .bl i :: ds => (blsOf ds).map (i :: ·)
  | _ => none
theorem bls_of {μ : List Addr} {Hf : Hp} : ∀ {ds : List D} {vs : List V} {ns : List Bool}, RepL K μ Hf ds vs → blsOf ds = some ns → vs = ns.map V.bl
  | [], vs, ns, r, e => by simp only [RepL] at r; simp only [blsOf, Option.some.injEq] at e; subst r e; rfl
  | d :: ds, vs, ns, r, e => by
    simp only [RepL] at r
    obtain ⟨x, xs, rfl, q, rl⟩ := r
    cases d <;> first | (simp [blsOf] at e; done) | skip
    rename_i i
    simp only [blsOf] at e
    cases e2 : blsOf ds with
    | none => rw [e2] at e; cases e
    | some ms =>
      rw [e2] at e
      cases e
      simp only [Rep] at q
      subst q
      rw [bls_of rl e2]
      rfl
def bAll : OpN := op1 fun S d => ((viewLs S d).bind blsOf).map fun bs => .bl (bs.all id)
def bAny : OpN := op1 fun S d => ((viewLs S d).bind blsOf).map fun bs => .bl (bs.any id)
def bSum : OpN := op1 fun S d => ((viewLs S d).bind intsOf).map fun ns => .int ns.sum
theorem map_bind {α β γ : Type} {o : Option α} {f : α → Option β} {g : β → γ} {c : γ} (h : (o.bind f).map g = some c) : ∃ a b, o = some a ∧ f a = some b ∧ c = g b := by
  cases o with
  | none => cases h
  | some a =>
    cases e : f a with
    | none => simp [e] at h
    | some b => exact ⟨a, b, rfl, e, by simpa [e] using h.symm⟩
theorem cb_all : CallB K (rAll K) bAll := callB_one fun S H Hf μ x d c Q so bx e k => by
  obtain ⟨ds, bs, e1, e2, rfl⟩ := map_bind e
  obtain ⟨p, xs, rfl, hq, _, rl⟩ := viewLs_ok so bx e1
  have hx := bls_of rl e2
  subst hx
  exact ⟨p, bs, rfl, hq, k _ H Hf μ (Step.refl _ _ _) so (by simp only [Rep])⟩
theorem cb_any : CallB K (rAny K) bAny := callB_one fun S H Hf μ x d c Q so bx e k => by
  obtain ⟨ds, bs, e1, e2, rfl⟩ := map_bind e
  obtain ⟨p, xs, rfl, hq, _, rl⟩ := viewLs_ok so bx e1
  have hx := bls_of rl e2
  subst hx
  exact ⟨p, bs, rfl, hq, k _ H Hf μ (Step.refl _ _ _) so (by simp only [Rep])⟩
theorem cb_sum : CallB K (rSum K) bSum := callB_one fun S H Hf μ x d c Q so bx e k => by
  obtain ⟨ds, bs, e1, e2, rfl⟩ := map_bind e
  obtain ⟨p, xs, rfl, hq, _, rl⟩ := viewLs_ok so bx e1
  have hx := ints_of rl e2
  subst hx
  exact ⟨p, bs, rfl, hq, k _ H Hf μ (Step.refl _ _ _) so (by simp only [Rep])⟩
/-- tuple(x), list(x) of a list or a tuple -/
def bTup : OpN := op1 fun S d => match d with
  | .tup ds => some (.tup ds)
  | d => (viewLs S d).map .tup
theorem cb_tup : CallB K (fun xs H Q => ∃ p ys, xs = [.ref p] ∧ ((SqL K H p ys ∧ ∀ l, H l = none → Q (.ref l) (upd H l (.tup ys))) ∨ (SqT K H p ys ∧ Q (.ref p) H))) bTup := callB_one fun S H Hf μ x d c Q so bx e k => by
  by_cases hs : ∃ y, d = .tup y
  · obtain ⟨ds, rfl⟩ := hs
    cases e
    obtain ⟨p, xs, rfl, hq, hz, rl⟩ := bx.tup
    exact ⟨p, xs, rfl, .inr ⟨so.sub.tp hq, k _ H Hf μ (Step.refl _ _ _) so (by simp only [Rep]; exact ⟨p, xs, rfl, hq, hz, rl⟩)⟩⟩
  · have e' : (viewLs S d).map D.tup = some c := by
      cases d <;> first | exact e | exact absurd ⟨_, rfl⟩ hs
    cases e2 : viewLs S d with
    | none => rw [e2] at e'; cases e'
    | some ds =>
      rw [e2] at e'
      cases e'
      obtain ⟨p, xs, rfl, hq, hz, rl⟩ := viewLs_ok so bx e2
      refine ⟨p, xs, rfl, .inl ⟨hq, fun l hl => ?_⟩⟩
      obtain ⟨st, so2⟩ := Step.lay (u := .tup xs) so hl
      exact k _ _ _ μ st so2 (by simp only [Rep]; exact ⟨l, xs, rfl, upd_same, hz, st.repL rl⟩)
def bLst : Store → List D → Option SO := fun S ds => match ds with
  | [d] => (viewL S d).map .lst
  | _ => none
theorem cn_lst : CallN K (fun xs H Q => ∃ p ys, xs = [.ref p] ∧ (SqL K H p ys ∨ SqT K H p ys) ∧ ∀ l, H l = none → Q (.ref l) (upd H l (.lst ys))) bLst := by
  intro S H Hf μ vs ds c Q so b e k
  unfold bLst at e
  split at e
  · rename_i d
    obtain ⟨x, rfl, bx⟩ := b.one
    cases e2 : viewL S d with
    | none => rw [e2] at e; cases e
    | some es =>
      rw [e2] at e
      cases e
      obtain ⟨p, xs, rfl, hq, hz, rl⟩ := viewL_ok so bx e2
      refine ⟨p, xs, rfl, hq, fun l hl => ?_⟩
      obtain ⟨st, so2, hf, hm⟩ := Step.layN (u := .lst xs) so hl
      exact k _ _ _ μ st so2 ⟨l, _, rfl, hl, upd_same, ⟨xs, rfl, hz, rl⟩, hf, hm⟩
  · cases e
end
section
variable {X : Cx} {W : WX} {a b e : Expr} {es : List Expr} {fa fb : Ev D} {g : Ev (List D)} {p p' pos : Pos}
/-- list(range(a)), list(range(a, b)) -/
def rgOk (a b : Int) : Bool := decide (-(2 ^ 62) ≤ a) && decide (a < 2 ^ 62) && decide (-(2 ^ 62) ≤ b) && decide (b < 2 ^ 62) && decide ((b - a).toNat ≤ 2 ^ 24)
def nRg1 (f : Ev D) : Ev SO := fun Γ S => (f Γ S).bind fun x S1 => match x with
  | .int n => if rgOk 0 n then .ok (.lst (rngD 0 n.toNat)) S1 else .no
  | _ => .no
def nRg2 (f g : Ev D) : Ev SO := fun Γ S => (f Γ S).bind fun x S1 => (g Γ S1).bind fun y S2 => match x, y with
  | .int m, .int n => if rgOk m n then .ok (.lst (rngD m (n - m).toNat)) S2 else .no
  | _, _ => .no
theorem repL_rg {K : PySem.W.Frag} {μ : List Addr} {Hf : Hp} (lo : Int) : ∀ (l : List Nat), RepL K μ Hf (l.map fun i => .int (lo + (i : Nat))) (l.map fun i => V.int (lo + (i : Nat)))
  | [] => RepL.nil
  | i :: l => RepL.cons (by simp only [Rep]) (repL_rg lo l)
theorem fin_rg {K : PySem.W.Frag} {S1 : Store} {H H1 Hf1 : Hp} {μ1 : List Addr} {σ : L2.St} {Q : VK} {m n : Int} (h : rgOk m n = true) (so1 : StoOk K S1 H1 Hf1 μ1)
    (o1 : Out K (NewR K) W σ H1 Hf1 μ1 (.ok (.lst (rngD m (n - m).toNat)) S1) Q) : RgOk m n ∧ ∀ q, H1 q = none → Q (.ref q) (upd H1 q (.lst (rgV m n))) := by
  simp only [rgOk, Bool.and_eq_true, decide_eq_true_eq] at h
  obtain ⟨⟨⟨⟨h1, h2⟩, h3⟩, h4⟩, h5⟩ := h
  refine ⟨⟨h1, h2, h3, h4, h5⟩, fun q hq => ?_⟩
  obtain ⟨st, so2, hf, hm⟩ := Step.layN (u := .lst (rgV m n)) so1 hq
  refine o1 _ _ _ μ1 st so2 ⟨q, _, rfl, hq, upd_same, ⟨_, rfl, ?_, ?_⟩, hf, hm⟩
  · rw [rgV_length, sizeLine_eq]; omega
  · exact repL_rg m _
theorem dn_rg1 {rp rpos : Pos} (hc : X.calm = true) (hgl : Gl X "list") (hml : X.mg "list" = none) (hg : Gl X "range") (hm : X.mg "range" = none) (ha : DB X W a fa) (na : starEach [a] X.env = (false, eval a X.env) :: starEach [] X.env := by rfl)
    (nl : starEach [.Call (.Name "range" rp) [a] [] rpos] X.env = (false, eval (.Call (.Name "range" rp) [a] [] rpos) X.env) :: starEach [] X.env := by rfl) : DN X W (.Call (.Name "list" p) [.Call (.Name "range" rp) [a] [] rpos] [] pos) (nRg1 fa) :=
  PE_imp (pe_listRg hc hgl hml (prg_1 hg hm ha na) nl) fun σ H Q ⟨Γ, S, Hf, μ, sl, so, o⟩ => ⟨Γ, S, Hf, μ, sl, so, Out.bind sl rm_new o fun d S1 v H1 Hf1 μ1 _ s1 sl1 so1 r1 o1 => by
    have bx := BorR.bor sl1 r1
    cases d <;> first | exact o1.elim | skip
    rename_i n _
    refine ⟨n, bx.int, ?_⟩
    have o1 : Out X.K (NewR X.K) W σ H1 Hf1 μ1 (if rgOk 0 n then .ok (.lst (rngD 0 n.toNat)) S1 else .no) Q := o1
    split at o1
    next h => exact fin_rg (H := H) h so1 (by rw [Int.sub_zero]; exact o1)
    · exact o1.elim⟩
theorem dn_rg2 {rp rpos : Pos} (hc : X.calm = true) (hgl : Gl X "list") (hml : X.mg "list" = none) (hg : Gl X "range") (hm : X.mg "range" = none) (ha : DB X W a fa) (hb : DB X W b fb) (na : starEach [a, b] X.env = (false, eval a X.env) :: starEach [b] X.env := by rfl)
    (nb : starEach [b] X.env = (false, eval b X.env) :: starEach [] X.env := by rfl) (hp : (backTo rpos (starEach [b] X.env)).any (·.1) = false := by rfl)
    (nl : starEach [.Call (.Name "range" rp) [a, b] [] rpos] X.env = (false, eval (.Call (.Name "range" rp) [a, b] [] rpos) X.env) :: starEach [] X.env := by rfl) : DN X W (.Call (.Name "list" p) [.Call (.Name "range" rp) [a, b] [] rpos] [] pos) (nRg2 fa fb) :=
  PE_imp (pe_listRg hc hgl hml (prg_2 hg hm ha hb na nb hp) nl) fun σ H Q ⟨Γ, S, Hf, μ, sl, so, o⟩ => ⟨Γ, S, Hf, μ, sl, so, Out.bind sl rm_new o fun d S1 v H1 Hf1 μ1 _ s1 sl1 so1 r1 o1 =>
    ⟨Γ, S1, Hf1, μ1, sl1, so1, Out.bind sl1 rm_new o1 fun d2 S2 v2 H2 Hf2 μ2 _ s2 sl2 so2 r2 o2 => by
    have bx := BorR.bor sl2 (BorR.keep (H0' := H) s2 r1)
    have by_ := BorR.bor sl2 r2
    cases d <;> first | exact o2.elim | skip
    cases d2 <;> first | exact o2.elim | skip
    rename_i m _ n _
    refine ⟨m, n, bx.int, by_.int, ?_⟩
    have o2 : Out X.K (NewR X.K) W σ H2 Hf2 μ2 (if rgOk m n then .ok (.lst (rngD m (n - m).toNat)) S2 else .no) Q := o2
    split at o2
    next h => exact fin_rg (H := H) h so2 o2
    · exact o2.elim⟩⟩
end
end DL
set_option Elab.async false
set_option linter.all false
set_option maxRecDepth 100000
/-! DLh: isinstance, repr, sorted(set(..)), methods that tell. -/
namespace DL
open PySem PySem.Spec PyProof.Rows L2

/-! ### isinstance of a built-in type -/
inductive Kd where
  | non | bl | int | str | lst | tup | dict
deriving DecidableEq
def Kd.name : Kd → String
  | .non => "NoneType" | .bl => "bool" | .int => "int" | .str => "str" | .lst => "list" | .tup => "tuple" | .dict => "dict"
def Kd.isa : Kd → Kd → Bool
  | .bl, .int => true
  | a, b => decide (a = b)
theorem kitK (a b : Kd) (hb : b ≠ .non) : kitB a.name b.name = some (a.isa b) := by
  cases a <;> cases b <;> first | exact absurd rfl hb | decide +kernel
def kdOf (S : Store) : D → Option Kd
  | .non => some .non
  | .bl _ => some .bl
  | .int _ => some .int
  | .str _ => some .str
  | .tup _ => some .tup
  | .lst _ => some .lst
  | .kst _ => some .lst
  | .loc n => match S[n]? with
    | some (.lst _) => some .lst
    | _ => none
  | .raw _ => none
theorem tyx_l {K : PySem.W.Frag} {H : Hp} {a : Addr} {xs : List V} (q : SqL K H a xs) : TyX K H (.ref a) (.type "list") := by
  rcases q with (q | ⟨o, q⟩) | ⟨o, its, n, q, c, _⟩
  · exact .base (.lst q)
  · exact .base (.frz q)
  · exact .kList q c
theorem tyx_t {K : PySem.W.Frag} {H : Hp} {a : Addr} {xs : List V} (q : SqT K H a xs) : TyX K H (.ref a) (.type "tuple") := by
  rcases q with (q | ⟨o, q⟩) | ⟨o, its, n, q, c, _⟩
  · exact .base (.tup q)
  · exact .fTuple q
  · exact .kTuple q c
theorem tyx_of {K : PySem.W.Frag} {S : Store} {H Hf : Hp} {μ : List Addr} {d : D} {x : V} {k : Kd} (so : StoOk K S H Hf μ) (bx : Bor K H Hf μ d x) (e : kdOf S d = some k) : TyX K H x (.type k.name) := by
  cases d with
  | non => cases e; rw [bx.non]; exact .base .non
  | bl b => cases e; rw [bx.bl]; exact .base (.bl b)
  | int b => cases e; rw [bx.int]; exact .base (.int b)
  | str b => cases e; rw [bx.str]; exact .base (.str b)
  | tup ds =>
    cases e
    obtain ⟨a, xs, rfl, q, _⟩ := bx.tup
    exact tyx_t (so.sub.tp q)
  | lst ds =>
    cases e
    obtain ⟨a, xs, rfl, q, _⟩ := viewLs_ok so bx rfl
    exact tyx_l q
  | kst ds =>
    cases e
    obtain ⟨a, xs, rfl, q, _⟩ := viewLs_ok so bx rfl
    exact tyx_l q
  | loc n =>
    have e : (match S[n]? with | some (.lst _) => some Kd.lst | _ => none) = some k := e
    cases e2 : S[n]? with
    | none => rw [e2] at e; cases e
    | some o =>
      rw [e2] at e
      cases o with
      | lst es =>
        cases e
        obtain ⟨a, xs, rfl, q, _⟩ := viewLs_ok (d := .loc n) so bx (by show (match S[n]? with | some (.lst ds) => some ds | _ => none : Option (List D)) = _; rw [e2])
        exact tyx_l q
      | _ => cases e
  | raw w => cases e
/-- the type's name as an argument -/
def eTy (k : Kd) : Ev D := eC (.raw (.ty k.name))
theorem db_ty {X : Cx} {W : WX} {x : PySem.Str} {pos : Pos} (k : Kd) (hg : Gl X x) (hm : X.mg x = none) (hv : bootBuiltins x = some (.type k.name)) (hn : x ≠ "__name__" := by decide) (hd : (x == ("__debug__" : PySem.Str)) = false := by decide) : DB X W (.Name x pos) (eTy k) :=
  db_of (PE_imp (pe_bltn (v := .ty k.name) hg hm hv rfl hn hd) fun _ _ _ => tE_c fun _ _ => by simp only [Rep])
def bIsi (c : Kd) : OpN := op2 fun S a t => match t with
  | .raw (.ty n) => if n == c.name && decide (c ≠ .non) then (kdOf S a).map fun k => .bl (k.isa c) else none
  | _ => none
theorem cb_isi {K : PySem.W.Frag} (c : Kd) : CallB K (rIsi K) (bIsi c) := callB_two fun S H Hf μ x y d t z Q so bx by_ e k => by
  split at e
  next n =>
    split at e
    next h =>
      rw [Bool.and_eq_true, beq_iff_eq, decide_eq_true_eq] at h
      obtain ⟨rfl, hc⟩ := h
      cases e2 : kdOf S d with
      | none => rw [e2] at e; cases e
      | some kd =>
        rw [e2] at e
        cases e
        refine ⟨x, y, _, .type c.name, kd.isa c, rfl, ?_, tyx_of so bx e2, kit_ty (kitK kd c hc), k _ H Hf μ (Step.refl _ _ _) so (by simp only [Rep])⟩
        rw [by_.raw]
        exact .ty _
    · cases e
  · cases e

/-! ### repr -/
def reprOk (p : PyData) : Bool := p.showable && decide (p.depth ≤ 60) && decide (p.shown.length ≤ sizeLine)
def rRepr (K : PySem.W.Frag) : List V → Hp → VK → Prop := fun xs H Q => ∃ x p, xs = [x] ∧ ((∃ a, x = .ref a) ∨ ∃ i, x = .int i) ∧ Dp K H x p ∧ reprOk p = true ∧ Q (.str p.shown) H
mutual
theorem nodict_dp {K : PySem.W.Frag} {H : Hp} : ∀ (p : PyData) (v : V), Dp K H v p → p.hasDict = false
  | .none, _, _ => by simp only [PyData.hasDict]
  | .bool _, _, _ => by simp only [PyData.hasDict]
  | .int _, _, _ => by simp only [PyData.hasDict]
  | .str _, _, _ => by simp only [PyData.hasDict]
  | .list ds, _, h => by
    cases h with
    | lst _ ha => simp only [PyData.hasDict]; exact nodicts_dp ds _ ha
  | .tuple ds, _, h => by
    cases h with
    | tup _ ha => simp only [PyData.hasDict]; exact nodicts_dp ds _ ha
  | .dict _, _, h => by cases h
theorem nodicts_dp {K : PySem.W.Frag} {H : Hp} : ∀ (ps : List PyData) (vs : List V), DpAll K H vs ps → PyData.hasDictAll ps = false
  | [], _, _ => by simp only [PyData.hasDictAll]
  | p :: ps, _, h => by
    cases h with
    | cons h1 h2 => simp only [PyData.hasDictAll, nodict_dp p _ h1, nodicts_dp ps _ h2, Bool.or_self]
end
theorem call_repr {X : Cx} (hgd : X.A.guards = some []) (hu : X.A.units + 64 < cLine) : CallR X (.builtin "repr") (rRepr X.K) := by
  intro pins s σ H xs us Q I r h
  obtain ⟨x, p, rfl, hx, dp, ok, q⟩ := h
  simp only [reprOk, Bool.and_eq_true, decide_eq_true_eq] at ok
  obtain ⟨⟨h1, h2⟩, h3⟩ := ok
  rcases hx with ⟨a, rfl⟩ | ⟨i, rfl⟩
  · obtain ⟨u, rfl, ru⟩ := vals1 r
    obtain rfl : u = .ref a := ru
    obtain ⟨as, rd⟩ := Dp.reads I p _ _ dp rfl
    exact repr_of_reads' rd h1 (PyData.noDict_hsm (nodict_dp p _ dp)) hgd (by omega) (fun _ _ e => e) (fun h' u tk k => ⟨.str p.shown, H, I.kept (t' := tk) k, ⟨u, rfl⟩, q⟩) h3
  · cases dp
    obtain ⟨u, rfl, t, rfl⟩ := vals1 r
    simp only [PyData.showable, decide_eq_true_eq] at h1
    exact PySem.P.repr_of_int h1 ⟨.str _, H, I.tok _, ⟨_, rfl⟩, by simpa [PyData.shown] using q⟩
def isRefD : D → Bool
  | .tup _ => true
  | .lst _ => true
  | .kst _ => true
  | .loc _ => true
  | .int _ => true
  | _ => false
def bRepr : OpN := op1 fun S d => if isRefD d then match pyS S d with
  | some p => if reprOk p then some (.str p.shown) else none
  | none => none else none
theorem cb_repr {K : PySem.W.Frag} : CallB K (rRepr K) bRepr := callB_one fun S H Hf μ x d c Q so bx e k => by
  split at e
  next hd =>
    cases e2 : pyS S d with
    | none => rw [e2] at e; cases e
    | some p =>
      rw [e2] at e
      simp only at e
      split at e
      next ok =>
        cases e
        refine ⟨x, p, rfl, ?_, bor_dp so bx e2, ok, k _ H Hf μ (Step.refl _ _ _) so (by simp only [Rep])⟩
        cases d with
        | tup ds => obtain ⟨a, xs, rfl, _⟩ := bx.tup; exact .inl ⟨a, rfl⟩
        | lst ds => obtain ⟨a, xs, rfl, _⟩ := viewLs_ok so bx rfl; exact .inl ⟨a, rfl⟩
        | kst ds => obtain ⟨a, xs, rfl, _⟩ := viewLs_ok so bx rfl; exact .inl ⟨a, rfl⟩
        | loc n =>
          rcases bx with r | ⟨_, _, _, z, _⟩
          · simp only [Rep] at r
            obtain ⟨a, rfl, _⟩ := r
            exact .inl ⟨a, rfl⟩
          · cases z
        | int i => exact .inr ⟨i, bx.int⟩
        | _ => cases hd
      · cases e
  · cases e
theorem de_repr {X : Cx} {W : WX} {e : Expr} {g : Ev (List D)} {p pos : Pos} (hgd : X.A.guards = some []) (hu : X.A.units + 64 < cLine) (hg : Gl X "repr") (hm : X.mg "repr" = none) (hv : bootBuiltins "repr" = some (.builtin "repr")) (ha : DAb X W [e] g)
    (he : starEach [e] X.env = (false, eval e X.env) :: starEach [] X.env := by rfl) : DE X W (.Call (.Name "repr" p) [e] [] pos) (eFn bRepr g) :=
  de_bi (call_repr hgd hu) cb_repr hg hm hv ha (by decide) (by decide) he rfl

/-! ### sorted(set(x)), x a list of tuples of d small ints -/
def insS (x : List Int) : List (List Int) → List (List Int)
  | [] => [x]
  | y :: l => if HT.lexLt x y then x :: y :: l else if x = y then y :: l else y :: insS x l
def sortS : List (List Int) → List (List Int)
  | [] => []
  | x :: l => insS x (sortS l)
theorem mem_insS {x z : List Int} : ∀ {l : List (List Int)}, z ∈ insS x l ↔ z = x ∨ z ∈ l
  | [] => by simp [insS]
  | y :: l => by
    unfold insS
    split
    · simp
    · split
      next h => subst h; simp
      · simp only [List.mem_cons, mem_insS (l := l)]
        constructor
        · rintro (h | h | h)
          · exact .inr (.inl h)
          · exact .inl h
          · exact .inr (.inr h)
        · rintro (h | h | h)
          · exact .inr (.inl h)
          · exact .inl h
          · exact .inr (.inr h)
theorem mem_sortS {z : List Int} : ∀ {l : List (List Int)}, z ∈ sortS l ↔ z ∈ l
  | [] => by simp [sortS]
  | x :: l => by unfold sortS; rw [mem_insS, mem_sortS, List.mem_cons]
theorem lexLt_code {B : Int} : ∀ {xs ys : List Int}, xs.length = ys.length → TS.Bd B xs → TS.Bd B ys → (HT.lexLt xs ys = true ↔ TS.code B xs < TS.code B ys)
  | [], [], _, _, _ => by simp [HT.lexLt, TS.code]
  | x :: xs, y :: ys, hl, h1, h2 => by
    have hl' : xs.length = ys.length := by simpa using hl
    unfold HT.lexLt
    split
    next h => subst h; rw [lexLt_code hl' h1.tail h2.tail, TS.code_same hl']
    next h =>
      rw [decide_eq_true_eq]
      constructor
      · exact fun z => TS.code_lt hl' h1.tail h2.tail z
      · intro z
        rcases Int.lt_trichotomy x y with q | q | q
        · exact q
        · exact absurd q h
        · have := TS.code_lt hl'.symm h2.tail h1.tail q
          omega
theorem code_inj {B : Int} : ∀ {xs ys : List Int}, xs.length = ys.length → TS.Bd B xs → TS.Bd B ys → TS.code B xs = TS.code B ys → xs = ys
  | [], [], _, _, _, _ => rfl
  | x :: xs, y :: ys, hl, h1, h2, e => by
    have hl' : xs.length = ys.length := by simpa using hl
    have hxy : x = y := by
      rcases Int.lt_trichotomy x y with q | q | q
      · have := TS.code_lt hl' h1.tail h2.tail q; omega
      · exact q
      · have := TS.code_lt hl'.symm h2.tail h1.tail q; omega
    subst hxy
    have : TS.code B xs = TS.code B ys := by
      have e' : x * B ^ xs.length + TS.code B xs = x * B ^ ys.length + TS.code B ys := e
      rw [hl'] at e'
      omega
    rw [code_inj hl' h1.tail h2.tail this]
/-- all of length d, with entries under B -/
def BdAll (d : Nat) (B : Int) (l : List (List Int)) : Prop := ∀ x ∈ l, x.length = d ∧ TS.Bd B x
def Incr (B : Int) (l : List (List Int)) : Prop := l.Pairwise fun x y => TS.code B x < TS.code B y
theorem incr_insS {d : Nat} {B : Int} {x : List Int} : ∀ {l : List (List Int)}, BdAll d B (x :: l) → Incr B l → Incr B (insS x l)
  | [], _, _ => List.pairwise_singleton _ _
  | y :: l, hb, hi => by
    have hx := hb x (by simp)
    have hy := hb y (by simp)
    have hlt := lexLt_code (B := B) (hx.1.trans hy.1.symm) hx.2 hy.2
    unfold Incr at hi
    rw [List.pairwise_cons] at hi
    unfold insS
    split
    next h =>
      refine List.Pairwise.cons (fun z hz => ?_) (List.Pairwise.cons hi.1 hi.2)
      rcases List.mem_cons.mp hz with rfl | hz
      · exact hlt.mp h
      · have := hi.1 z hz; have := hlt.mp h; omega
    next h =>
      split
      next h2 => exact List.Pairwise.cons hi.1 hi.2
      next h2 =>
        have ih : Incr B (insS x l) := incr_insS (fun z hz => hb z (by rcases List.mem_cons.mp hz with r | r; exact List.mem_cons.mpr (.inl r); exact List.mem_cons.mpr (.inr (List.mem_cons_of_mem _ r)))) hi.2
        refine List.Pairwise.cons (fun z hz => ?_) ih
        rcases mem_insS.mp hz with rfl | hz
        · have n1 : ¬ TS.code B z < TS.code B y := fun q => h (hlt.mpr q)
          have n2 : TS.code B z ≠ TS.code B y := fun q => h2 (code_inj (hx.1.trans hy.1.symm) hx.2 hy.2 q)
          omega
        · exact hi.1 z hz
theorem incr_sortS {d : Nat} {B : Int} : ∀ {l : List (List Int)}, BdAll d B l → Incr B (sortS l)
  | [], _ => List.Pairwise.nil
  | x :: l, hb => by
    have h2 : BdAll d B l := fun z hz => hb z (List.mem_cons_of_mem _ hz)
    exact incr_insS (fun z hz => hb z (by
      rcases List.mem_cons.mp hz with r | r
      · exact List.mem_cons.mpr (.inl r)
      · exact List.mem_cons_of_mem _ (mem_sortS.mp r))) (incr_sortS h2)
theorem incr_unique {B : Int} : ∀ {l m : List (List Int)}, Incr B l → Incr B m → (∀ z, z ∈ l ↔ z ∈ m) → l = m
  | [], [], _, _, _ => rfl
  | [], y :: m, _, _, h => by have := (h y).mpr (by simp); simp at this
  | x :: l, [], _, _, h => by have := (h x).mp (by simp); simp at this
  | x :: l, y :: m, h1, h2, h => by
    unfold Incr at h1 h2
    rw [List.pairwise_cons] at h1 h2
    have hxy : x = y := by
      rcases List.mem_cons.mp ((h x).mp (by simp)) with e | e
      · exact e
      · rcases List.mem_cons.mp ((h y).mpr (by simp)) with e2 | e2
        · exact e2.symm
        · have a := h2.1 x e
          have b := h1.1 y e2
          omega
    subst hxy
    rw [incr_unique h1.2 h2.2 fun z => ?_]
    constructor
    · intro hz
      rcases List.mem_cons.mp ((h z).mp (List.mem_cons_of_mem _ hz)) with e | e
      · subst e; have := h1.1 z hz; omega
      · exact e
    · intro hz
      rcases List.mem_cons.mp ((h z).mpr (List.mem_cons_of_mem _ hz)) with e | e
      · subst e; have := h2.1 z hz; omega
      · exact e
/-- the tuples of ints -/
def tupsOf : List D → Option (List (List Int))
  | [] => some []
  | .tup ds :: r => match intsOf ds, tupsOf r with
    | some ns, some l => some (ns :: l)
    | _, _ => none
  | _ => none
def tupI (ns : List Int) : D := .tup (ns.map .int)
theorem intsOf_map {ds : List D} : ∀ {ns : List Int}, intsOf ds = some ns → ds = ns.map .int := by
  induction ds with
  | nil => intro ns e; cases e; rfl
  | cons d ds ih =>
    intro ns e
    cases d <;> first | (simp [intsOf] at e; done) | skip
    simp only [intsOf] at e
    cases e2 : intsOf ds with
    | none => rw [e2] at e; cases e
    | some ms => rw [e2] at e; cases e; rw [ih e2]; rfl
theorem tups_of {K : PySem.W.Frag} {μ : List Addr} {Hf : Hp} : ∀ {ds : List D} {xs : List V} {l : List (List Int)}, RepL K μ Hf ds xs → tupsOf ds = some l →
    ∃ ks : List (Addr × List Int), xs = ks.map (fun p => V.ref p.1) ∧ (∀ p ∈ ks, Hf p.1 = some (.tup (p.2.map V.int)) ∧ p.2.length ≤ sizeLine) ∧ ks.map (·.2) = l
  | [], xs, l, r, e => by
    simp only [RepL] at r; cases e; subst r
    exact ⟨[], rfl, (fun p hp => by cases hp), rfl⟩
  | d :: ds, xs, l, r, e => by
    simp only [RepL] at r
    obtain ⟨x, ys, rfl, q, rl⟩ := r
    cases d <;> first | (simp [tupsOf] at e; done) | skip
    rename_i es
    simp only [tupsOf] at e
    cases e1 : intsOf es with
    | none => rw [e1] at e; cases e
    | some ns =>
      cases e2 : tupsOf ds with
      | none => rw [e1, e2] at e; cases e
      | some m =>
        rw [e1, e2] at e
        cases e
        simp only [Rep] at q
        obtain ⟨a, vs, rfl, hq, hz, rv⟩ := q
        have hv := ints_of rv e1
        subst hv
        obtain ⟨ks, h1, h2, h3⟩ := tups_of rl e2
        refine ⟨(a, ns) :: ks, by rw [h1]; rfl, fun p hp => ?_, by rw [List.map_cons, h3]⟩
        rcases List.mem_cons.mp hp with rfl | hp
        · exact ⟨hq, by simpa using hz⟩
        · exact h2 p hp
def ssOk (d : Nat) (B : Int) (l : List (List Int)) : Bool := decide (1 ≤ d) && decide (l.length < 64) && l.all fun x => decide (x.length = d) && x.all fun m => decide (0 ≤ m) && decide (m < B)
def nSS (d : Nat) (B : Int) (f : Ev D) : Ev SO := fun Γ S => (f Γ S).bind fun x S1 => match (viewLs S1 x).bind tupsOf with
  | some l => if ssOk d B l then .ok (.lst ((sortS l).map tupI)) S1 else .no
  | none => .no
theorem Step.ext {K : PySem.W.Frag} {S : Store} {H Hf : Hp} {μ : List Addr} {p : Addr} {u : HO} (so : StoOk K S H Hf μ) (hp : H p = none) : Step H Hf μ (upd H p u) Hf μ ∧ StoOk K S (upd H p u) Hf μ := let ⟨a, b, _⟩ := Step.layN (u := u) so hp; ⟨a, b⟩
theorem repL_ref {K : PySem.W.Frag} {μ : List Addr} {Hf : Hp} : ∀ {L : List (Addr × List Int)}, (∀ p ∈ L, Hf p.1 = some (.tup (p.2.map V.int)) ∧ p.2.length ≤ sizeLine) → RepL K μ Hf ((L.map (·.2)).map tupI) (L.map fun q => V.ref q.1)
  | [], _ => RepL.nil
  | p :: L, h => by
    refine RepL.cons ?_ (repL_ref fun q hq => h q (List.mem_cons_of_mem _ hq))
    obtain ⟨h1, h2⟩ := h p (by simp)
    simp only [tupI, Rep]
    refine ⟨p.1, _, rfl, h1, by simpa using h2, ?_⟩
    exact go p.2
where
  go : ∀ ns : List Int, RepL K μ Hf (ns.map .int) (ns.map V.int)
    | [] => RepL.nil
    | n :: ns => RepL.cons (by simp only [Rep]) (go ns)
theorem dn_ss {X : Cx} {W : WX} {a : Expr} {fa : Ev D} {p1 p2 q1 q2 : Pos} (d : Nat) (B : Int) (hc : X.calm = true) (hu : X.A.units + 64 < cLine) (hgs : Gl X "sorted") (hms : X.mg "sorted" = none) (hvs : bootBuiltins "sorted" = some (.builtin "sorted"))
    (hge : Gl X "set") (hme : X.mg "set" = none) (hve : bootBuiltins "set" = some (.type "set")) (ha : DB X W a fa)
    (he1 : starEach [a] X.env = (false, eval a X.env) :: starEach [] X.env := by rfl)
    (he2 : starEach [.Call (.Name "set" p2) [a] [] q2] X.env = (false, eval (.Call (.Name "set" p2) [a] [] q2) X.env) :: starEach [] X.env := by rfl) :
    DN X W (.Call (.Name "sorted" p1) [.Call (.Name "set" p2) [a] [] q2] [] q1) (nSS d B fa) := by
  refine PE_imp (pe_callB (cr_sortedT hc) hgs hms hvs (pa_cons (pe_callTy (cr_setOfT hc hu) hge hme hve (pa_cons ha pa_nil he1) (by decide) (by decide) he1 rfl) pa_nil he2) (by decide) (by decide) he2 rfl) fun σ H Q ⟨Γ, S, Hf, μ, sl, so, o⟩ => ?_
  refine ⟨Γ, S, Hf, μ, sl, so, Out.bind sl rm_new o fun x S1 v H1 Hf1 μ1 _ s1 sl1 so1 r1 o1 => ?_⟩
  cases e : (viewLs S1 x).bind tupsOf with
  | none => simp only [e] at o1; exact o1.elim
  | some l =>
    simp only [e] at o1
    split at o1
    next ok =>
      cases e1 : viewLs S1 x with
      | none => rw [e1] at e; cases e
      | some ds =>
        rw [e1] at e
        have e : tupsOf ds = some l := e
        obtain ⟨p, xs, rfl, hq, hz, rl⟩ := viewLs_ok so1 (BorR.bor sl1 r1) e1
        obtain ⟨ks, rfl, hk, rfl⟩ := tups_of rl e
        simp only [ssOk, Bool.and_eq_true, decide_eq_true_eq, List.all_eq_true, List.length_map] at ok
        obtain ⟨⟨hd, hlen⟩, hb⟩ := ok
        have bd : BdAll d B (ks.map (·.2)) := fun z hz => ⟨(hb z hz).1, fun m hm => (hb z hz).2 m hm⟩
        refine ⟨p, ks, rfl, hq, fun q hq => so1.sub.tp (hk q hq).1, hlen, fun a L hn hsub hall => ?_⟩
        obtain ⟨st2, so2⟩ := Step.ext (u := SetTO X.prog X.w a L) so1 hn
        have hLk : ∀ q ∈ L, Hf1 q.1 = some (.tup (q.2.map V.int)) ∧ q.2.length ≤ sizeLine := fun q hq => hk q (hsub q hq)
        refine ⟨a, L, d, B, rfl, upd_same, fun q hq => so2.sub.tp (hLk q hq).1, hd, fun q hq => ?_, fun L' b hperm hnd hl64 hpw hbn => ?_⟩
        · have := bd q.2 (List.mem_map.mpr ⟨q, hsub q hq, rfl⟩)
          exact this
        · obtain ⟨st3, so3, hf3, hm3⟩ := Step.layN (u := .lst (L'.map fun q => V.ref q.1)) so2 hbn
          have hL' : ∀ q ∈ L', Hf1 q.1 = some (.tup (q.2.map V.int)) ∧ q.2.length ≤ sizeLine := fun q hq => hLk q (hperm.mem_iff.mp hq)
          have bdL : BdAll d B (L'.map (·.2)) := fun z hz => by
            obtain ⟨q, hq, rfl⟩ := List.mem_map.mp hz
            exact bd q.2 (List.mem_map.mpr ⟨q, hsub q (hperm.mem_iff.mp hq), rfl⟩)
          have inc : Incr B (L'.map (·.2)) := by
            have h1 : (L'.map (·.2)).Pairwise fun x y => TS.code B x ≤ TS.code B y := List.pairwise_map.mpr hpw
            exact go h1 hnd bdL
          have eqL : L'.map (·.2) = sortS (ks.map (·.2)) := incr_unique inc (incr_sortS bd) fun z => by
            rw [mem_sortS]
            constructor
            · intro hz
              obtain ⟨q, hq, rfl⟩ := List.mem_map.mp hz
              exact List.mem_map.mpr ⟨q, hsub q (hperm.mem_iff.mp hq), rfl⟩
            · intro hz
              obtain ⟨q, hq, rfl⟩ := List.mem_map.mp hz
              obtain ⟨r, hr, er⟩ := List.mem_map.mp (hall q hq)
              exact List.mem_map.mpr ⟨r, hperm.mem_iff.mpr hr, er⟩
          refine o1 _ _ _ μ1 (st2.trans st3) so3 ⟨b, _, rfl, ?_, upd_same, ⟨_, rfl, ?_, ?_⟩, hf3, hm3⟩
          · exact Classical.byContradiction fun z => st2.th b z hbn
          · rw [List.length_map, sizeLine_eq]; omega
          · rw [← eqL]
            exact repL_ref hL'
    · exact o1.elim
where
  go {B : Int} {d : Nat} : ∀ {l : List (List Int)}, (l.Pairwise fun x y => TS.code B x ≤ TS.code B y) → l.Nodup → BdAll d B l → Incr B l
    | [], _, _, _ => List.Pairwise.nil
    | x :: l, h1, h2, h3 => by
      rw [List.pairwise_cons] at h1
      rw [List.nodup_cons] at h2
      refine List.Pairwise.cons (fun z hz => ?_) (go h1.2 h2.2 fun y hy => h3 y (List.mem_cons_of_mem _ hy))
      have a := h1.1 z hz
      have hx := h3 x (by simp)
      have hzz := h3 z (List.mem_cons_of_mem _ hz)
      have : TS.code B x ≠ TS.code B z := fun e => h2.1 (code_inj (hx.1.trans hzz.1.symm) hx.2 hzz.2 e ▸ hz)
      omega
end DL
set_option Elab.async false
set_option linter.all false
set_option maxRecDepth 100000
/-! DLi: what changes objects: a slot's own, the store's; several names at once; unpacking. -/
namespace DL
open PySem PySem.Spec PyProof.Rows L2

section
variable {K : PySem.W.Frag} {B : Base} {Γ : Gm} {S S' : Store} {σ : L2.St} {H Hf H' Hf' : Hp} {μ μ' : List Addr} {W : WX}
theorem get_set_own {i j : Nat} {o o' : SO} (h : (Γ.set i (some (.own o')))[j]? = some (some (.own o))) : (j = i ∧ o = o') ∨ (j ≠ i ∧ Γ[j]? = some (some (.own o))) := by
  by_cases hj : i = j
  · subst hj
    by_cases hl : i < Γ.length
    · rw [List.getElem?_set_self hl] at h
      cases h
      exact .inl ⟨rfl, rfl⟩
    · rw [List.getElem?_eq_none (by rw [List.length_set]; omega)] at h
      cases h
  · rw [List.getElem?_set_ne hj] at h
    exact .inr ⟨fun z => hj z.symm, h⟩
/-- a slot's own object is written -/
theorem Rl.mut (r : Rl K B Γ S σ H Hf μ) {i : Nat} {o o' : SO} {p : Addr} {u u' : HO} (hi : Γ[i]? = some (some (.own o))) (hs : σ[i]? = some (some (V.ref p))) (hp : H p = some u) (hf : Hf p = none) (hm : p ∉ μ) (ho : ORep K μ Hf o' u') :
    Rl K B (Γ.set i (some (.own o'))) S σ (upd H p u') Hf μ := by
  have hb := r.own i o p hi hs
  have pv : Priv p u H Hf μ := ⟨hp, hf, hm⟩
  refine ⟨⟨by rw [List.length_set]; exact r.sl.len, fun j d e => ?_, fun j c e => ?_, fun j k c c' q e1 e2 s1 s2 => ?_⟩, pv.sto r.so, Priv.back hb r.st, fun j c q e1 e2 => ?_, r.fz, r.pm⟩
  · by_cases hj : i = j
    · subst hj
      have hl : i < Γ.length := (List.getElem?_eq_some_iff.mp hi).1
      rw [List.getElem?_set_self hl] at e
      cases e
    · rw [List.getElem?_set_ne hj] at e
      exact r.sl.val j d e
  · rcases get_set_own e with ⟨rfl, rfl⟩ | ⟨hj, e⟩
    · exact ⟨p, u', hs, upd_same, ho, hf, hm⟩
    · obtain ⟨q, w, s1, h1, h2, h3, h4⟩ := r.sl.own j c e
      have hqp : q ≠ p := fun z => hj (r.sl.apart j i c o p e hi (z ▸ s1) hs)
      exact ⟨q, w, s1, by rw [upd_ne hqp]; exact h1, h2, h3, h4⟩
  · have g : ∀ {j : Nat} {c : SO}, (Γ.set i (some (.own o')))[j]? = some (some (.own c)) → ∃ c', Γ[j]? = some (some (.own c')) := fun {j c} e => by
      rcases get_set_own e with ⟨rfl, rfl⟩ | ⟨_, e⟩
      · exact ⟨o, hi⟩
      · exact ⟨c, e⟩
    obtain ⟨c1, f1⟩ := g e1
    obtain ⟨c2, f2⟩ := g e2
    exact r.sl.apart j k c1 c2 q f1 f2 s1 s2
  · rcases get_set_own e1 with ⟨rfl, rfl⟩ | ⟨hj, e⟩
    · rw [hs] at e2; cases e2; exact hb
    · exact r.own j c q e e2
/-- an object of the store is written -/
theorem Sto.mut (so : StoOk K S H Hf μ) {n : Nat} {o o' : SO} {p : Addr} {u' : HO} (hn : S[n]? = some o) (hp : μ[n]? = some p) (ho : ORep K μ Hf o' u') : Step H Hf μ (upd H p u') Hf μ ∧ StoOk K (S.set n o') (upd H p u') Hf μ := by
  have hmem : p ∈ μ := List.mem_of_getElem? hp
  obtain ⟨u, hu, _⟩ := so.ob n o p hn hp
  refine ⟨⟨fun a x e m => by rw [upd_ne (show a ≠ p from fun z => m (z ▸ hmem))]; exact e, Sub.refl _, fun a h _ => h, Pre.refl _, fun a h => .inl h, fun a h => ?_⟩, ⟨fun a x e => ?_, by rw [List.length_set]; exact so.len, so.nd, fun k c a e1 e2 => ?_, so.fz⟩⟩
  · by_cases z : a = p
    · subst z; rw [upd_same]; exact fun z => nomatch z
    · rw [upd_ne z]; exact h
  · have hap : a ≠ p := fun z => by rw [z, so.fz p hmem] at e; cases e
    rw [upd_ne hap]; exact so.sub a x e
  · by_cases hk : n = k
    · subst hk
      have hl : n < S.length := (List.getElem?_eq_some_iff.mp hn).1
      rw [List.getElem?_set_self hl] at e1
      cases e1
      rw [hp] at e2
      cases e2
      exact ⟨u', upd_same, ho⟩
    · rw [List.getElem?_set_ne hk] at e1
      obtain ⟨w, h1, h2⟩ := so.ob k c a e1 e2
      have hap : a ≠ p := fun z => by
        subst z
        have hk' : k < μ.length := (List.getElem?_eq_some_iff.mp e2).1
        have hn' : n < μ.length := (List.getElem?_eq_some_iff.mp hp).1
        have g1 : μ[n] = a := by rw [List.getElem?_eq_getElem hn'] at hp; exact Option.some.inj hp
        have g2 : μ[k] = a := by rw [List.getElem?_eq_getElem hk'] at e2; exact Option.some.inj e2
        exact hk ((List.getElem_inj (h₀ := hn') (h₁ := hk') so.nd).mp (g1.trans g2.symm))
      exact ⟨w, by rw [upd_ne hap]; exact h1, h2⟩
/-- a private object comes to the store -/
theorem Sto.pub (so : StoOk K S H Hf μ) {o : SO} {p : Addr} {u : HO} (pv : Priv p u H Hf μ) (ho : ORep K μ Hf o u) : StoOk K (S ++ [o]) H Hf (μ ++ [p]) := by
  have hpre : Pre μ (μ ++ [p]) := fun n a e => by
    have hl : n < μ.length := (List.getElem?_eq_some_iff.mp e).1
    rw [List.getElem?_append_left hl]; exact e
  refine ⟨so.sub, by simp [so.len], ?_, fun n c a e1 e2 => ?_, fun a m => ?_⟩
  · rw [List.nodup_append]
    exact ⟨so.nd, by simp, fun a ha b hb => by rw [List.mem_singleton] at hb; subst hb; exact fun z => pv.nm (z ▸ ha)⟩
  · by_cases hl : n < S.length
    · rw [List.getElem?_append_left hl] at e1
      rw [List.getElem?_append_left (by rw [so.len]; exact hl)] at e2
      obtain ⟨w, h1, h2⟩ := so.ob n c a e1 e2
      exact ⟨w, h1, h2.mono (Sub.refl _) hpre⟩
    · have hn : n = S.length := by
        have : n < (S ++ [o]).length := (List.getElem?_eq_some_iff.mp e1).1
        simp at this
        omega
      subst hn
      rw [List.getElem?_append_right (Nat.le_refl _), Nat.sub_self] at e1
      rw [List.getElem?_append_right (by rw [so.len]; exact Nat.le_refl _), so.len, Nat.sub_self] at e2
      cases e1
      cases e2
      exact ⟨u, pv.at_, ho.mono (Sub.refl _) hpre⟩
  · rcases List.mem_append.mp m with m | m
    · exact so.fz a m
    · rw [List.mem_singleton] at m; subst m; exact pv.fz
theorem pre_app {μ : List Addr} {p : Addr} : Pre μ (μ ++ [p]) := fun n a e => by
  have hl : n < μ.length := (List.getElem?_eq_some_iff.mp e).1
  rw [List.getElem?_append_left hl]; exact e
theorem Step.pub {H0 Hf0 : Hp} {μ0 : List Addr} {p : Addr} (s : Step H0 Hf0 μ0 H Hf μ) (h0 : H0 p = none) : Step H0 Hf0 μ0 H Hf (μ ++ [p]) :=
  ⟨s.fr, s.fz, s.nf, s.mu.trans pre_app, fun a m => by
    rcases List.mem_append.mp m with m | m
    · exact s.nm a m
    · rw [List.mem_singleton] at m; subst m; exact .inr h0, s.th⟩
end

/-! ### ghosts: a slot's own is frozen, or comes to the store -/
def sFz (i : Nat) : Es := fun Γ S => match Γ[i]? with
  | some (some (.own (.lst ds))) => .nx (Γ.set i (some (.val (.lst ds)))) S
  | _ => .no
def sPb (i : Nat) : Es := fun Γ S => match Γ[i]? with
  | some (some (.own o)) => .nx (Γ.set i (some (.val (.loc S.length)))) (S ++ [o])
  | _ => .no
/-- a new object comes to the store at once -/
def ePb (f : Ev SO) : Ev D := fun Γ S => (f Γ S).bind fun o S1 => .ok (.loc S1.length) (S1 ++ [o])
section
variable {X : Cx} {B : Base} {W : WX} {sts : List Stmt} {f : Es} {i : Nat}
theorem set_same {σ : L2.St} {v : V} (h : σ[i]? = some (some v)) : σ.set i (some v) = σ := by
  apply List.ext_getElem?
  intro j
  by_cases hj : i = j
  · subst hj
    have hl : i < σ.length := (List.getElem?_eq_some_iff.mp h).1
    rw [List.getElem?_set_self hl, h]
  · rw [List.getElem?_set_ne hj]
theorem dss_fz (h : DSs X B W sts f) : DSs X B W sts (sSeq (sFz i) f) := fun fl ml => PSs_imp (h fl ml) fun E σ H ⟨Γ, S, Hf, μ, r, o⟩ => by
  unfold sSeq sFz at o
  cases e : Γ[i]? with
  | none => rw [e] at o; exact o.elim
  | some x =>
    cases x with
    | none => rw [e] at o; exact o.elim
    | some x =>
      cases x with
      | val d => rw [e] at o; exact o.elim
      | own c =>
        cases c with
        | lst ds =>
          rw [e] at o
          obtain ⟨p, u, s1, hp, ⟨xs, rfl, hz, rl⟩, hf, hm⟩ := r.sl.own i _ e
          obtain ⟨sb, so2⟩ := Step.frz r.so hp hf hm
          have hb := r.own i _ p e s1
          have rv : Rep X.K μ (upd Hf p (.lst xs)) (.lst ds) (.ref p) := by
            simp only [Rep]
            exact ⟨p, xs, rfl, upd_same, hz, RepL.mono sb (Pre.refl _) _ _ rl⟩
          have nf : ∀ {j : Nat} {c : SO}, (Γ.set i (some (.val (.lst ds))))[j]? = some (some (.own c)) → i ≠ j ∧ Γ[j]? = some (some (.own c)) := fun {j c} e2 => by
            by_cases hj : i = j
            · subst hj
              have hl : i < Γ.length := (List.getElem?_eq_some_iff.mp e).1
              rw [List.getElem?_set_self hl] at e2
              cases e2
            · rw [List.getElem?_set_ne hj] at e2
              exact ⟨hj, e2⟩
          refine ⟨_, S, upd Hf p (.lst xs), μ, ⟨⟨by rw [List.length_set]; exact r.sl.len, fun j d e2 => ?_, fun j c e2 => ?_, fun j k c c' q e2 e3 s2 s3 => ?_⟩, so2, ⟨r.st.fr, r.st.fz.trans sb, fun a h1 h2 => ?_, r.st.mu, r.st.nm, r.st.th⟩, fun j c q e2 s2 => r.own j c q (nf e2).2 s2, r.fz.trans sb, r.pm⟩, o⟩
          · by_cases hj : i = j
            · subst hj
              have hl : i < Γ.length := (List.getElem?_eq_some_iff.mp e).1
              rw [List.getElem?_set_self hl] at e2
              cases e2
              exact ⟨.ref p, s1, rv⟩
            · rw [List.getElem?_set_ne hj] at e2
              obtain ⟨v, h1, h2⟩ := r.sl.val j d e2
              exact ⟨v, h1, Rep.mono sb (Pre.refl _) _ _ h2⟩
          · obtain ⟨hj, e2⟩ := nf e2
            obtain ⟨q, w, s2, h1, h2, h3, h4⟩ := r.sl.own j c e2
            have hqp : q ≠ p := fun z => hj (r.sl.apart i j _ c p e e2 s1 (z ▸ s2))
            exact ⟨q, w, s2, h1, h2.mono sb (Pre.refl _), by rw [upd_ne hqp]; exact h3, h4⟩
          · exact r.sl.apart j k c c' q (nf e2).2 (nf e3).2 s2 s3
          · rw [upd_ne (show a ≠ p from fun z => h2 (z ▸ hb))]
            exact r.st.nf a h1 h2
        | _ => rw [e] at o; exact o.elim
theorem dss_pb (h : DSs X B W sts f) : DSs X B W sts (sSeq (sPb i) f) := fun fl ml => PSs_imp (h fl ml) fun E σ H ⟨Γ, S, Hf, μ, r, o⟩ => by
  unfold sSeq sPb at o
  cases e : Γ[i]? with
  | none => rw [e] at o; exact o.elim
  | some x =>
    cases x with
    | none => rw [e] at o; exact o.elim
    | some x =>
      cases x with
      | val d => rw [e] at o; exact o.elim
      | own c =>
        rw [e] at o
        obtain ⟨p, u, s1, hp, ho, hf, hm⟩ := r.sl.own i _ e
        have hb := r.own i _ p e s1
        have nf : ∀ {j : Nat} {c : SO}, (Γ.set i (some (.val (.loc S.length))))[j]? = some (some (.own c)) → i ≠ j ∧ Γ[j]? = some (some (.own c)) := fun {j c} e2 => by
          by_cases hj : i = j
          · subst hj
            have hl : i < Γ.length := (List.getElem?_eq_some_iff.mp e).1
            rw [List.getElem?_set_self hl] at e2
            cases e2
          · rw [List.getElem?_set_ne hj] at e2
            exact ⟨hj, e2⟩
        refine ⟨_, S ++ [c], Hf, μ ++ [p], ⟨⟨by rw [List.length_set]; exact r.sl.len, fun j d e2 => ?_, fun j c' e2 => ?_, fun j k c1 c2 q e2 e3 s2 s3 => ?_⟩, Sto.pub r.so ⟨hp, hf, hm⟩ ho, r.st.pub hb, fun j c q e2 s2 => r.own j c q (nf e2).2 s2, r.fz, r.pm.trans pre_app⟩, o⟩
        · by_cases hj : i = j
          · subst hj
            have hl : i < Γ.length := (List.getElem?_eq_some_iff.mp e).1
            rw [List.getElem?_set_self hl] at e2
            cases e2
            refine ⟨.ref p, s1, ?_⟩
            simp only [Rep]
            exact ⟨p, rfl, by rw [← r.so.len, List.getElem?_append_right (Nat.le_refl _), Nat.sub_self]; rfl⟩
          · rw [List.getElem?_set_ne hj] at e2
            obtain ⟨v, h1, h2⟩ := r.sl.val j d e2
            exact ⟨v, h1, Rep.mono (Sub.refl _) pre_app _ _ h2⟩
        · obtain ⟨hj, e2⟩ := nf e2
          obtain ⟨q, w, s2, h1, h2, h3, h4⟩ := r.sl.own j c' e2
          have hqp : q ≠ p := fun z => hj (r.sl.apart i j _ c' p e e2 s1 (z ▸ s2))
          exact ⟨q, w, s2, h1, h2.mono (Sub.refl _) pre_app, h3, fun m => by
            rcases List.mem_append.mp m with m | m
            · exact h4 m
            · rw [List.mem_singleton] at m; exact hqp m⟩
        · exact r.sl.apart j k c1 c2 q (nf e2).2 (nf e3).2 s2 s3
theorem de_pb {e : Expr} {fn : Ev SO} (h : DN X W e fn) : DE X W e (ePb fn) := PE_imp h fun σ H Q ⟨Γ, S, Hf, μ, sl, so, o⟩ => ⟨Γ, S, Hf, μ, sl, so, by
  unfold ePb at o
  cases e1 : fn Γ S with
  | no => rw [e1] at o; exact o
  | ex C fs S1 => rw [e1] at o; exact o
  | ok d S1 =>
    rw [e1, RE.bind_ok] at o
    intro v H1 Hf1 μ1 s1 so1 r1
    obtain ⟨p, u, rfl, hn, hp, ho, hf, hm⟩ := r1
    refine o (.ref p) H1 Hf1 (μ1 ++ [p]) (s1.pub hn) (Sto.pub so1 ⟨hp, hf, hm⟩ ho) ?_
    simp only [Rep]
    exact ⟨p, rfl, by rw [← so1.len, List.getElem?_append_right (Nat.le_refl _), Nat.sub_self]; rfl⟩⟩
end

/-! ### methods that change a slot's own -/
def isL : SO → Bool
  | .lst _ => true
  | _ => false
/-- with a value -/
def sMu (i : Nat) (m : SO → D → Option SO) (f : Ev D) : Es := fun Γ S => match Γ[i]? with
  | some (some (.own (.lst ds))) => bindS Γ (f Γ S) fun d S1 => match m (.lst ds) d with
    | some o' => .nx (Γ.set i (some (.own o'))) S1
    | none => .no
  | _ => .no
/-- the method's rule keeps the object's reading; b: the argument is only read -/
def MuR (K : PySem.W.Frag) (b : Bool) (r : V → List V → Hp → VK → Prop) (m : SO → D → Option SO) : Prop := ∀ (S : Store) (H Hf : Hp) (μ : List Addr) (p : Addr) (x : V) (u : HO) (o o' : SO) (d : D) (Q : VK), StoOk K S H Hf μ → H p = some u → ORep K μ Hf o u →
  (if b = true then Bor K H Hf μ d x else Rep K μ Hf d x) → m o d = some o' → (∀ u', ORep K μ Hf o' u' → Q .non (upd H p u')) → r (.ref p) [x] H Q
def tX (b : Bool) (K : PySem.W.Frag) (W : WX) (f : Ev D) : TE := if b = true then tBo K W f else tE K W f
abbrev DX (b : Bool) (X : Cx) (W : WX) (e : Expr) (f : Ev D) : Prop := PE X e (tX b X.K W f)
def XR (b : Bool) (K : PySem.W.Frag) (σ : L2.St) (Γ : Gm) : RR D V := if b = true then BorR K σ Γ else RepR K
theorem rm_x {b : Bool} {K : PySem.W.Frag} {σ : L2.St} {Γ : Gm} : RMono (XR b K σ Γ) := by
  cases b
  · exact rm_rep
  · exact rm_bor
theorem tX_of {b : Bool} {K : PySem.W.Frag} {W : WX} {f : Ev D} {σ : L2.St} {H : Hp} {Q : VK} (h : ∃ Γ S Hf μ, SlOk K Γ σ H Hf μ ∧ StoOk K S H Hf μ ∧ Out K (XR b K σ Γ) W σ H Hf μ (f Γ S) Q) : tX b K W f σ H Q := by
  cases b
  · exact h
  · exact h
theorem XR.at {b : Bool} {K : PySem.W.Frag} {Γ : Gm} {σ : L2.St} {H0 H Hf : Hp} {μ : List Addr} {d : D} {v : V} (sl : SlOk K Γ σ H Hf μ) (r : XR b K σ Γ H0 H Hf μ d v) : if b = true then Bor K H Hf μ d v else Rep K μ Hf d v := by
  cases b
  · exact r
  · exact BorR.bor (H0 := H0) sl r
section
variable {X : Cx} {B : Base} {W : WX} {e : Expr} {es : List Expr} {f : Ev D} {x : PySem.Str} {np apos cpos pos : Pos} {id : String} {name : PySem.Str} {r : V → List V → Hp → VK → Prop} {m : SO → D → Option SO}
theorem tyv_l {K : PySem.W.Frag} {H : Hp} {p : Addr} {xs : List V} (hp : H p = some (.lst xs)) : tyV K "list" (.ref p) H := .inl ⟨rfl, xs, SqL.of hp⟩
theorem ds_mu (b : Bool) (i : Nat) (slot : Slot "list" name id) (hty : typeOf (.builtin id) = pure (.type "method_descriptor")) (hm : MtR X id r) (hmu : MuR X.K b r m) (he : DX b X W e f)
    (hN : X.N[i]? = some x := by rfl) (hv : Vis X.env.scope x := by first | exact Or.inl rfl | exact Or.inr (Or.inl rfl) | exact Or.inr (Or.inr rfl)) (hd : (x == ("__debug__" : PySem.Str)) = false := by decide) (hcd : (x == ("__classdict__" : PySem.Str)) = false := by decide)
    (hbase : attributeBase (.Name x np) name X.env (eval (.Name x np) X.env) = eval (.Name x np) X.env := by rfl)
    (hfew : ((backTo cpos (starEach [e] X.env)).all (fun x => !x.1) && (backToKw cpos (keywordEach [] X.env)).all (fun x => x.1.isSome)
      && decide (([e] : List Expr).length + ([] : List Keyword).length + (if ([] : List Keyword).isEmpty then 0 else 1) < 30)) = true := by rfl)
    (hline : (apos.endLine == cpos.line) = true := by rfl) (hs : starEach [e] X.env = (false, eval e X.env) :: starEach [] X.env := by rfl)
    (hsw : swapsWith (.Call (.Attribute (.Name x np) name apos) [e] [] cpos) none pos.line X.env = pure false := by rfl) :
    DS X B W (.Expr (.Call (.Attribute (.Name x np) name apos) [e] [] cpos) pos) (sMu i m f) := by
  intro fl ml
  refine PS_imp (ps_expr (pe_bm PySem.F.plainAttrs_list slot hty hm (pe_var (i := i) hN hv hd hcd) (pa_cons he pa_nil hs) hbase hfew hline hs rfl) hsw) fun E σ H ⟨Γ, S, Hf, μ, rl, o⟩ => ?_
  unfold sMu at o
  split at o
  next ds e1 =>
    obtain ⟨p, u, s1, hp, ⟨xs, rfl, hz, rx⟩, hf, hm'⟩ := rl.sl.own i _ e1
    refine ⟨.ref p, s1, tyv_l hp, tX_of ⟨Γ, S, Hf, μ, rl.sl, rl.so, SOut.bind rl o fun d S1 v H1 Hf1 μ1 _ st r1 re o1 => ?_⟩⟩
    obtain ⟨p', u', s1', hp', ho', hf', hm2⟩ := r1.sl.own i _ e1
    rw [s1] at s1'
    cases s1'
    cases e2 : m (.lst ds) d with
    | none => simp only [e2] at o1; exact o1.elim
    | some o2 =>
      simp only [e2] at o1
      exact hmu S1 H1 Hf1 μ1 p v u' _ o2 d _ r1.so hp' ho' (XR.at r1.sl re) e2 fun u2 h2 => o1 _ _ _ _ (r1.mut e1 s1 hp' hf' hm2 h2)
  next => exact o.elim
def mApp : SO → D → Option SO := fun o d => match o with
  | .lst ds => if ds.length < sizeLine then some (.lst (ds ++ [d])) else none
  | _ => none
theorem mu_app {K : PySem.W.Frag} : MuR K false rAppend mApp := fun S H Hf μ p x u o o' d Q so hp ho rx e k => by
  cases o <;> first | (cases e; done) | skip
  rename_i ds
  obtain ⟨xs, rfl, hz, rl⟩ := ho
  have e : (if ds.length < sizeLine then some (SO.lst (ds ++ [d])) else none) = some o' := e
  split at e
  next h =>
    cases e
    refine ⟨p, xs, x, rfl, rfl, hp, by rw [rl.length]; exact h, k _ ⟨_, rfl, ?_, RepL.append rl (RepL.cons rx RepL.nil)⟩⟩
    rw [List.length_append, rl.length]
    exact h
  · cases e
def mExt : SO → D → Option SO := fun o d => match o, d with
  | .lst ds, .lst es => if ds.length + es.length ≤ sizeLine then some (.lst (ds ++ es)) else none
  | _, _ => none
theorem mu_ext {K : PySem.W.Frag} : MuR K true rExtend mExt := fun S H Hf μ p x u o o' d Q so hp ho rx e k => by
  cases o <;> first | (cases e; done) | skip
  cases d <;> first | (cases e; done) | skip
  rename_i ds es
  obtain ⟨xs, rfl, hz, rl⟩ := ho
  have e : (if ds.length + es.length ≤ sizeLine then some (SO.lst (ds ++ es)) else none) = some o' := e
  split at e
  next h =>
    cases e
    have rx : Bor K H Hf μ (.lst es) x := rx
    obtain ⟨a, ys, rfl, ha, hz2, rl2⟩ := rx.lst so
    refine ⟨p, a, xs, ys, rfl, rfl, hp, ha, by rw [rl.length, rl2.length]; exact h, k _ ⟨_, rfl, ?_, RepL.append rl rl2⟩⟩
    rw [List.length_append, rl.length, rl2.length]
    exact h
  · cases e
theorem ds_app (i : Nat) (he : DE X W e f) (hN : X.N[i]? = some x := by rfl) (hv : Vis X.env.scope x := by first | exact Or.inl rfl | exact Or.inr (Or.inl rfl) | exact Or.inr (Or.inr rfl)) (hd : (x == ("__debug__" : PySem.Str)) = false := by decide) (hcd : (x == ("__classdict__" : PySem.Str)) = false := by decide)
    (hbase : attributeBase (.Name x np) "append" X.env (eval (.Name x np) X.env) = eval (.Name x np) X.env := by rfl)
    (hfew : ((backTo cpos (starEach [e] X.env)).all (fun x => !x.1) && (backToKw cpos (keywordEach [] X.env)).all (fun x => x.1.isSome)
      && decide (([e] : List Expr).length + ([] : List Keyword).length + (if ([] : List Keyword).isEmpty then 0 else 1) < 30)) = true := by rfl)
    (hline : (apos.endLine == cpos.line) = true := by rfl) (hs : starEach [e] X.env = (false, eval e X.env) :: starEach [] X.env := by rfl)
    (hsw : swapsWith (.Call (.Attribute (.Name x np) "append" apos) [e] [] cpos) none pos.line X.env = pure false := by rfl) :
    DS X B W (.Expr (.Call (.Attribute (.Name x np) "append" apos) [e] [] cpos) pos) (sMu i mApp f) :=
  ds_mu false i PySem.F.slot_list_append PySem.F.type_list_append mt_append mu_app he hN hv hd hcd hbase hfew hline hs hsw
theorem ds_ext (i : Nat) (he : DB X W e f) (hN : X.N[i]? = some x := by rfl) (hv : Vis X.env.scope x := by first | exact Or.inl rfl | exact Or.inr (Or.inl rfl) | exact Or.inr (Or.inr rfl)) (hd : (x == ("__debug__" : PySem.Str)) = false := by decide) (hcd : (x == ("__classdict__" : PySem.Str)) = false := by decide)
    (hbase : attributeBase (.Name x np) "extend" X.env (eval (.Name x np) X.env) = eval (.Name x np) X.env := by rfl)
    (hfew : ((backTo cpos (starEach [e] X.env)).all (fun x => !x.1) && (backToKw cpos (keywordEach [] X.env)).all (fun x => x.1.isSome)
      && decide (([e] : List Expr).length + ([] : List Keyword).length + (if ([] : List Keyword).isEmpty then 0 else 1) < 30)) = true := by rfl)
    (hline : (apos.endLine == cpos.line) = true := by rfl) (hs : starEach [e] X.env = (false, eval e X.env) :: starEach [] X.env := by rfl)
    (hsw : swapsWith (.Call (.Attribute (.Name x np) "extend" apos) [e] [] cpos) none pos.line X.env = pure false := by rfl) :
    DS X B W (.Expr (.Call (.Attribute (.Name x np) "extend" apos) [e] [] cpos) pos) (sMu i mExt f) :=
  ds_mu true i PySem.F.slot_list_extend PySem.F.type_list_extend mt_extend mu_ext he hN hv hd hcd hbase hfew hline hs hsw
/-- o.append(e), o a list of the store -/
def sLApp (g f : Ev D) : Es := fun Γ S => bindS Γ (g Γ S) fun o S1 => match o with
  | .loc n => match S1[n]? with
    | some (.lst _) => bindS Γ (f Γ S1) fun d S2 => match S2[n]? with
      | some (.lst ds) => if ds.length < sizeLine then .nx Γ (S2.set n (.lst (ds ++ [d]))) else .no
      | _ => .no
    | _ => .no
  | _ => .no
theorem ds_lapp {o : Expr} {g : Ev D} (ho : DE X W o g) (he : DE X W e f) 
    (hbase : attributeBase o "append" X.env (eval o X.env) = eval o X.env := by rfl)
    (hfew : ((backTo cpos (starEach [e] X.env)).all (fun x => !x.1) && (backToKw cpos (keywordEach [] X.env)).all (fun x => x.1.isSome)
      && decide (([e] : List Expr).length + ([] : List Keyword).length + (if ([] : List Keyword).isEmpty then 0 else 1) < 30)) = true := by rfl)
    (hline : (apos.endLine == cpos.line) = true := by rfl) (hs : starEach [e] X.env = (false, eval e X.env) :: starEach [] X.env := by rfl)
    (hsw : swapsWith (.Call (.Attribute o "append" apos) [e] [] cpos) none pos.line X.env = pure false := by rfl) :
    DS X B W (.Expr (.Call (.Attribute o "append" apos) [e] [] cpos) pos) (sLApp g f) := by
  intro fl ml
  refine PS_imp (ps_expr (pe_bm PySem.F.plainAttrs_list PySem.F.slot_list_append PySem.F.type_list_append mt_append ho (pa_cons he pa_nil hs) hbase hfew hline hs rfl) hsw) fun E σ H ⟨Γ, S, Hf, μ, rl, o⟩ => ?_
  refine ⟨Γ, S, Hf, μ, rl.sl, rl.so, SOut.bind rl o fun d S1 v H1 Hf1 μ1 _ st r1 re o1 => ?_⟩
  cases d <;> first | exact o1.elim | skip
  rename_i n _
  cases e1 : S1[n]? with
  | none => simp only [e1] at o1; exact o1.elim
  | some c =>
    cases c <;> first | (simp only [e1] at o1; exact o1.elim) | skip
    simp only [e1] at o1
    simp only [Rep] at re
    obtain ⟨p, rfl, hp⟩ := re
    obtain ⟨u, hu, ⟨xs, rfl, hz, rx⟩⟩ := r1.so.ob n _ p e1 hp
    refine ⟨tyv_l hu, Γ, S1, Hf1, μ1, r1.sl, r1.so, SOut.bind r1 o1 fun d2 S2 v2 H2 Hf2 μ2 _ st2 r2 re2 o2 => ?_⟩
    cases e2 : S2[n]? with
    | none => simp only [e2] at o2; exact o2.elim
    | some c2 =>
      cases c2 <;> first | (simp only [e2] at o2; exact o2.elim) | skip
      rename_i ds
      simp only [e2] at o2
      split at o2
      next h =>
        have hp2 := st2.mu n p hp
        obtain ⟨u2, hu2, ⟨ys, rfl, hz2, ry⟩⟩ := r2.so.ob n _ p e2 hp2
        have hor : ORep X.K μ2 Hf2 (.lst (ds ++ [d2])) (.lst (ys ++ [v2])) := ⟨_, rfl, by rw [List.length_append, ry.length]; exact h, RepL.append ry (RepL.cons re2 RepL.nil)⟩
        obtain ⟨s3, so3⟩ := Sto.mut r2.so e2 hp2 hor
        exact ⟨p, ys, v2, rfl, rfl, hu2, by rw [ry.length]; exact h, o2 _ _ _ _ (r2.step s3 so3)⟩
      · exact o2.elim
/-- o.clear(), o a list of the store -/
def sLClr (g : Ev D) : Es := fun Γ S => bindS Γ (g Γ S) fun o S1 => match o with
  | .loc n => match S1[n]? with
    | some (.lst _) => .nx Γ (S1.set n (.lst []))
    | _ => .no
  | _ => .no
theorem ds_lclr {o : Expr} {g : Ev D} (ho : DE X W o g) (hbase : attributeBase o "clear" X.env (eval o X.env) = eval o X.env := by rfl) (hline : (apos.endLine == cpos.line) = true := by rfl)
    (hsw : swapsWith (.Call (.Attribute o "clear" apos) [] [] cpos) none pos.line X.env = pure false := by rfl) :
    DS X B W (.Expr (.Call (.Attribute o "clear" apos) [] [] cpos) pos) (sLClr g) := by
  intro fl ml
  refine PS_imp (ps_expr (pe_bm0 PySem.F.plainAttrs_list PySem.F.slot_list_clear PySem.F.type_list_clear mt_clear ho hbase hline) hsw) fun E σ H ⟨Γ, S, Hf, μ, rl, o⟩ => ?_
  refine ⟨Γ, S, Hf, μ, rl.sl, rl.so, SOut.bind rl o fun d S1 v H1 Hf1 μ1 _ st r1 re o1 => ?_⟩
  cases d <;> first | exact o1.elim | skip
  rename_i n _
  cases e1 : S1[n]? with
  | none => simp only [e1] at o1; exact o1.elim
  | some c =>
    cases c <;> first | (simp only [e1] at o1; exact o1.elim) | skip
    simp only [e1] at o1
    simp only [Rep] at re
    obtain ⟨p, rfl, hp⟩ := re
    obtain ⟨u, hu, ⟨xs, rfl, hz, rx⟩⟩ := r1.so.ob n _ p e1 hp
    obtain ⟨s3, so3⟩ := Sto.mut (o' := .lst []) (u' := .lst []) r1.so e1 hp ⟨[], rfl, Nat.zero_le _, RepL.nil⟩
    exact ⟨tyv_l hu, p, xs, rfl, rfl, hu, o1 _ _ _ _ (r1.step s3 so3)⟩
end
end DL
set_option Elab.async false
set_option linter.all false
set_option maxRecDepth 100000
/-! DLj: dicts, stores by place, unpacking, chained comparisons, several names at once. -/
namespace DL
open PySem PySem.Spec PyProof.Rows L2

/-! ### the object at a slot: its own, or the store's -/
def curO (Γ : Gm) (S : Store) (i : Nat) : Option SO := match Γ[i]? with
  | some (some (.own o)) => some o
  | some (some (.val (.loc n))) => S[n]?
  | _ => none
def putO (Γ : Gm) (S : Store) (i : Nat) (o' : SO) : Gm × Store := match Γ[i]? with
  | some (some (.own _)) => (Γ.set i (some (.own o')), S)
  | some (some (.val (.loc n))) => (Γ, S.set n o')
  | _ => (Γ, S)
section
variable {K : PySem.W.Frag} {B : Base} {Γ : Gm} {S : Store} {σ : L2.St} {H Hf : Hp} {μ : List Addr} {o o' : SO} {i : Nat}
theorem cur_ok (sl : SlOk K Γ σ H Hf μ) (so : StoOk K S H Hf μ) (h : curO Γ S i = some o) : ∃ p u, σ[i]? = some (some (V.ref p)) ∧ H p = some u ∧ ORep K μ Hf o u := by
  unfold curO at h
  split at h
  next o1 e =>
    cases h
    obtain ⟨p, u, e1, e2, e3, _⟩ := sl.own i o e
    exact ⟨p, u, e1, e2, e3⟩
  next n e =>
    obtain ⟨v, e1, r⟩ := sl.val i _ e
    simp only [Rep] at r
    obtain ⟨p, rfl, hp⟩ := r
    obtain ⟨u, h1, h2⟩ := so.ob n o p h hp
    exact ⟨p, u, e1, h1, h2⟩
  · cases h
theorem put_ok (r : Rl K B Γ S σ H Hf μ) (h : curO Γ S i = some o) {p : Addr} (hs : σ[i]? = some (some (V.ref p))) {u' : HO} (ho : ORep K μ Hf o' u') : Rl K B (putO Γ S i o').1 (putO Γ S i o').2 σ (upd H p u') Hf μ := by
  unfold curO at h
  unfold putO
  split at h
  next o1 e =>
    cases h
    simp only [e]
    obtain ⟨q, u, e1, e2, e3, e4, e5⟩ := r.sl.own i o e
    rw [hs] at e1
    cases e1
    exact r.mut e hs e2 e4 e5 ho
  next n e =>
    simp only [e]
    obtain ⟨v, e1, rv⟩ := r.sl.val i _ e
    rw [hs] at e1
    cases e1
    simp only [Rep] at rv
    obtain ⟨q, e2, hp⟩ := rv
    cases e2
    obtain ⟨st, so⟩ := Sto.mut r.so h hp ho
    exact r.step st so
  · cases h
end

/-! ### dicts -/
def valD {κ : Type} [DecidableEq κ] (kvs : List (κ × D)) (k : κ) : Option D := (kvs.find? fun kv => decide (kv.1 = k)).map (·.2)
def putD {κ : Type} [DecidableEq κ] (kvs : List (κ × D)) (k : κ) (v : D) : List (κ × D) :=
  if (kvs.any fun kv => decide (kv.1 = k)) = true then kvs.map (fun kv => if kv.1 = k then (kv.1, v) else kv) else kvs ++ [(k, v)]
section
variable {K : PySem.W.Frag} {S : Store} {H Hf : Hp} {μ : List Addr}
theorem KRep.length {κ : Type} : ∀ {ks : List (κ × D)} {xs : List (κ × V)}, KRep K μ Hf ks xs → xs.length = ks.length
  | [], xs, h => by rw [show xs = [] from h]; rfl
  | (k, d) :: ks, xs, h => by
    obtain ⟨x, r, rfl, _, t⟩ := h
    simp [KRep.length t]
theorem KRep.val {κ : Type} [DecidableEq κ] {k : κ} : ∀ {ks : List (κ × D)} {xs : List (κ × V)}, KRep K μ Hf ks xs → (valD ks k = none ∧ valV xs k = none) ∨ ∃ d v, valD ks k = some d ∧ valV xs k = some v ∧ Rep K μ Hf d v
  | [], xs, h => by rw [show xs = [] from h]; exact .inl ⟨rfl, rfl⟩
  | (c, d) :: ks, xs, h => by
    obtain ⟨x, r, rfl, q, t⟩ := h
    unfold valD valV
    by_cases e : c = k
    · rw [List.find?_cons_of_pos (by simpa using e), List.find?_cons_of_pos (by simpa using e)]
      exact .inr ⟨d, x, rfl, rfl, q⟩
    · rw [List.find?_cons_of_neg (by simpa using e), List.find?_cons_of_neg (by simpa using e)]
      exact KRep.val t
theorem KRep.any {κ : Type} [DecidableEq κ] {k : κ} : ∀ {ks : List (κ × D)} {xs : List (κ × V)}, KRep K μ Hf ks xs → (xs.any fun kv => decide (kv.1 = k)) = ks.any fun kv => decide (kv.1 = k)
  | [], xs, h => by rw [show xs = [] from h]; rfl
  | (c, d) :: ks, xs, h => by
    obtain ⟨x, r, rfl, q, t⟩ := h
    simp only [List.any_cons, KRep.any t]
theorem KRep.map {κ : Type} [DecidableEq κ] {k : κ} {c : D} {v : V} (hv : Rep K μ Hf c v) : ∀ {ks : List (κ × D)} {xs : List (κ × V)}, KRep K μ Hf ks xs → KRep K μ Hf (ks.map fun kv => if kv.1 = k then (kv.1, c) else kv) (xs.map fun kv => if kv.1 = k then (kv.1, v) else kv)
  | [], xs, h => by rw [show xs = [] from h]; rfl
  | (a, d) :: ks, xs, h => by
    obtain ⟨x, r, rfl, q, t⟩ := h
    simp only [List.map_cons]
    by_cases e : a = k
    · rw [if_pos e, if_pos e]; exact ⟨v, _, rfl, hv, KRep.map hv t⟩
    · rw [if_neg e, if_neg e]; exact ⟨x, _, rfl, q, KRep.map hv t⟩
theorem KRep.snoc {κ : Type} {k : κ} {c : D} {v : V} (hv : Rep K μ Hf c v) : ∀ {ks : List (κ × D)} {xs : List (κ × V)}, KRep K μ Hf ks xs → KRep K μ Hf (ks ++ [(k, c)]) (xs ++ [(k, v)])
  | [], xs, h => by rw [show xs = [] from h]; exact ⟨v, [], rfl, hv, rfl⟩
  | (a, d) :: ks, xs, h => by
    obtain ⟨x, r, rfl, q, t⟩ := h
    exact ⟨x, _, rfl, q, KRep.snoc hv t⟩
theorem KRep.put {κ : Type} [DecidableEq κ] {k : κ} {c : D} {v : V} {ks : List (κ × D)} {xs : List (κ × V)} (hv : Rep K μ Hf c v) (h : KRep K μ Hf ks xs) : KRep K μ Hf (putD ks k c) (putK xs k v) := by
  unfold putD putK
  rw [h.any]
  split
  · exact h.map hv
  · exact h.snoc hv
/-- what stands in a dict at d -/
def dAt (o : SO) (d : D) : Option (Option D) := match o, d with
  | .dT kvs, .tup ds => (keysOf ds).map fun k => valD kvs k
  | .dK kvs, d => (keyOf d).map fun k => valD kvs k
  | _, _ => none
def dPut (o : SO) (d v : D) : Option SO := match o, d with
  | .dT kvs, .tup ds => if kvs.length < sizeLine then (keysOf ds).map fun k => .dT (putD kvs k v) else none
  | .dK kvs, d => if kvs.length < sizeLine then (keyOf d).map fun k => .dK (putD kvs k v) else none
  | _, _ => none
theorem key_rep {d : D} {k : Key} {x : V} (h : keyOf d = some k) (r : Rep K μ Hf d x) : x = kV k := by
  cases d <;> first | (cases h; done) | skip
  all_goals
    cases h
    simp only [Rep] at r
    exact r
theorem keys_rep : ∀ {ds : List D} {ks : List Key} {xs : List V}, keysOf ds = some ks → RepL K μ Hf ds xs → xs = ks.map kV
  | [], ks, xs, h, r => by simp only [RepL] at r; cases h; subst r; rfl
  | d :: ds, ks, xs, h, r => by
    simp only [RepL] at r
    obtain ⟨x, ys, rfl, q, t⟩ := r
    simp only [keysOf] at h
    cases e1 : keyOf d with
    | none => rw [e1] at h; cases h
    | some k =>
      cases e2 : keysOf ds with
      | none => rw [e1, e2] at h; cases h
      | some ks' =>
        rw [e1, e2] at h
        cases h
        rw [key_rep e1 q, keys_rep e2 t]
        rfl
theorem dAt_ok (so : StoOk K S H Hf μ) {a : Addr} {u : HO} {o : SO} {d : D} {y : V} {r : Option D} (ha : H a = some u) (ho : ORep K μ Hf o u) (hy : Rep K μ Hf d y) (h : dAt o d = some r) :
    ∃ r', DGet H a y r' ∧ ((r = none ∧ r' = none) ∨ ∃ c v, r = some c ∧ r' = some v ∧ Rep K μ Hf c v) := by
  unfold dAt at h
  split at h
  next kvs ds =>
    obtain ⟨xs, rfl, rk⟩ := ho
    cases e : keysOf ds with
    | none => rw [e] at h; cases h
    | some k =>
      rw [e] at h
      cases h
      simp only [Rep] at hy
      obtain ⟨b, ys, rfl, hb, _, rl⟩ := hy
      have hys := keys_rep e rl
      subst hys
      refine ⟨valV xs k, .inr ⟨xs, k, b, .inl ha, rfl, so.sub _ _ hb, rfl⟩, ?_⟩
      rcases rk.val (k := k) with ⟨h1, h2⟩ | ⟨c, v, h1, h2, h3⟩
      · exact .inl ⟨h1, h2⟩
      · exact .inr ⟨c, v, h1, h2, h3⟩
  next kvs =>
    obtain ⟨xs, rfl, rk⟩ := ho
    cases e : keyOf d with
    | none => rw [e] at h; cases h
    | some k =>
      rw [e] at h
      cases h
      refine ⟨valV xs k, .inl ⟨xs, k, .inl ha, key_rep e hy, rfl⟩, ?_⟩
      rcases rk.val (k := k) with ⟨h1, h2⟩ | ⟨c, v, h1, h2, h3⟩
      · exact .inl ⟨h1, h2⟩
      · exact .inr ⟨c, v, h1, h2, h3⟩
  · cases h
theorem dPut_ok (so : StoOk K S H Hf μ) {a : Addr} {u : HO} {o o' : SO} {d c : D} {y v : V} (ha : H a = some u) (ho : ORep K μ Hf o u) (hy : Rep K μ Hf d y) (hv : Rep K μ Hf c v) (h : dPut o d c = some o') :
    ∃ u', DPut H a y v (upd H a u') ∧ ORep K μ Hf o' u' := by
  unfold dPut at h
  split at h
  next kvs ds =>
    obtain ⟨xs, rfl, rk⟩ := ho
    split at h
    next hz =>
      cases e : keysOf ds with
      | none => rw [e] at h; cases h
      | some k =>
        rw [e] at h
        cases h
        simp only [Rep] at hy
        obtain ⟨b, ys, rfl, hb, _, rl⟩ := hy
        have hys := keys_rep e rl
        subst hys
        exact ⟨_, .inr ⟨xs, k, b, ha, rfl, so.sub _ _ hb, by rw [rk.length]; exact hz, rfl⟩, ⟨_, rfl, rk.put hv⟩⟩
    · cases h
  next kvs =>
    obtain ⟨xs, rfl, rk⟩ := ho
    split at h
    next hz =>
      cases e : keyOf d with
      | none => rw [e] at h; cases h
      | some k =>
        rw [e] at h
        cases h
        exact ⟨_, .inl ⟨xs, k, ha, key_rep e hy, by rw [rk.length]; exact hz, rfl⟩, ⟨_, rfl, rk.put hv⟩⟩
    · cases h
  · cases h
end
/-- d[k], k in d, d[k] = v; the dict at the slot i -/
def eDGet (i : Nat) (f : Ev D) : Ev D := fun Γ S => match curO Γ S i with
  | some _ => (f Γ S).bind fun k S1 => match curO Γ S1 i with
    | some o => match dAt o k with
      | some (some c) => .ok c S1
      | _ => .no
    | none => .no
  | none => .no
def bDIn (neg : Bool) (i : Nat) (f : Ev D) : Ev Bool := fun Γ S => (f Γ S).bind fun k S1 => match curO Γ S1 i with
  | some o => match dAt o k with
    | some r => .ok (if neg then !r.isSome else r.isSome) S1
    | _ => .no
  | none => .no
def sDPut (i : Nat) (fk fv : Ev D) : Es := fun Γ S => bindS Γ (fv Γ S) fun v S1 => match curO Γ S1 i with
  | some _ => bindS Γ (fk Γ S1) fun k S2 => match curO Γ S2 i with
    | some o => match dPut o k v with
      | some o' => .nx (putO Γ S2 i o').1 (putO Γ S2 i o').2
      | none => .no
    | none => .no
  | none => .no
/-- len(d) -/
def eDLen (i : Nat) : Ev D := fun Γ S => match curO Γ S i with
  | some (.dT kvs) => .ok (.int (kvs.length : Nat)) S
  | _ => .no
def nDT : Ev SO := fun _ S => .ok (.dT []) S
def nDK : Ev SO := fun _ S => .ok (.dK []) S
section
variable {X : Cx} {B : Base} {W : WX} {e : Expr} {fk fv : Ev D} {x : PySem.Str} {np pos p2 lp : Pos}
theorem dn_dT : DN X W (.Dict [] [] pos) nDT := PE_imp pe_dnewT fun σ H Q ⟨Γ, S, Hf, μ, sl, so, o⟩ p hp => by
  obtain ⟨st, so2, hf, hm⟩ := Step.layN (u := .dT []) so hp
  exact o _ _ _ μ st so2 ⟨p, _, rfl, hp, upd_same, ⟨[], rfl, rfl⟩, hf, hm⟩
theorem dn_dK : DN X W (.Dict [] [] pos) nDK := PE_imp pe_dnewK fun σ H Q ⟨Γ, S, Hf, μ, sl, so, o⟩ p hp => by
  obtain ⟨st, so2, hf, hm⟩ := Step.layN (u := .dK []) so hp
  exact o _ _ _ μ st so2 ⟨p, _, rfl, hp, upd_same, ⟨[], rfl, rfl⟩, hf, hm⟩
theorem de_dget (i : Nat) (hu : X.A.units + 1 < cLine) (he : DE X W e fk) (hs : NoSl e := by intro _ _; rfl) (hN : X.N[i]? = some x := by rfl) (hv : Vis X.env.scope x := by first | exact Or.inl rfl | exact Or.inr (Or.inl rfl) | exact Or.inr (Or.inr rfl))
    (hd : (x == ("__debug__" : PySem.Str)) = false := by decide) (hcd : (x == ("__classdict__" : PySem.Str)) = false := by decide) : DE X W (.Subscript (.Name x np) e pos) (eDGet i fk) :=
  PE_imp (pe_dget hu (pe_var (i := i) hN hv hd hcd) he hs) fun σ H Q ⟨Γ, S, Hf, μ, sl, so, o⟩ => by
    unfold eDGet at o
    cases e0 : curO Γ S i with
    | none => rw [e0] at o; exact o.elim
    | some o0 =>
      simp only [e0] at o
      obtain ⟨p, u, e1, e2, e3⟩ := cur_ok sl so e0
      refine ⟨.ref p, e1, Γ, S, Hf, μ, sl, so, Out.bind sl rm_rep o fun k S1 y H1 Hf1 μ1 _ s1 sl1 so1 r1 o1 => ?_⟩
      cases e4 : curO Γ S1 i with
      | none => simp only [e4] at o1; exact o1.elim
      | some o4 =>
        simp only [e4] at o1
        obtain ⟨p', u', e1', e2', e3'⟩ := cur_ok sl1 so1 e4
        rw [e1] at e1'
        cases e1'
        cases e5 : dAt o4 k with
        | none => simp only [e5] at o1; exact o1.elim
        | some r =>
          cases r with
          | none => simp only [e5] at o1; exact o1.elim
          | some c =>
            simp only [e5] at o1
            obtain ⟨r', g, h | ⟨c', v, h1, rfl, h3⟩⟩ := dAt_ok so1 e2' e3' r1 e5
            · cases h.1
            · cases h1
              exact ⟨p, v, rfl, g, o1 v H1 Hf1 μ1 (Step.refl _ _ _) so1 h3⟩
theorem tB_din {K : PySem.W.Frag} (neg : Bool) (i : Nat) {σ : L2.St} {H : Hp} {Q : Bool → Hp → Prop} (q : tT K W (bDIn neg i fk) σ H Q) :
    tE K W fk σ H fun y H1 => tVar i σ H1 fun x H2 => ∃ a o, x = .ref a ∧ DGet H2 a y o ∧ ∃ c, V.bl (if neg then !o.isSome else o.isSome) = .bl c ∧ Q c H2 := by
  obtain ⟨Γ, S, Hf, μ, sl, so, o⟩ := q
  refine ⟨Γ, S, Hf, μ, sl, so, Out.bind sl rm_eq o fun k S1 y H1 Hf1 μ1 _ s1 sl1 so1 r1 o1 => ?_⟩
  cases e4 : curO Γ S1 i with
  | none => simp only [e4] at o1; exact o1.elim
  | some o4 =>
    simp only [e4] at o1
    obtain ⟨p, u, e1, e2, e3⟩ := cur_ok sl1 so1 e4
    cases e5 : dAt o4 k with
    | none => simp only [e5] at o1; exact o1.elim
    | some r =>
      simp only [e5] at o1
      obtain ⟨r', g, h⟩ := dAt_ok so1 e2 e3 r1 e5
      have er : r.isSome = r'.isSome := by
        rcases h with ⟨rfl, rfl⟩ | ⟨c, v, rfl, rfl, _⟩ <;> rfl
      refine ⟨.ref p, e1, p, r', rfl, g, _, rfl, ?_⟩
      rw [er] at o1
      exact o1 _ H1 Hf1 μ1 (Step.refl _ _ _) so1 rfl
theorem dt_din (i : Nat) (hu : X.A.units + 1 < cLine) (he : DE X W e fk) (hN : X.N[i]? = some x := by rfl) (hv : Vis X.env.scope x := by first | exact Or.inl rfl | exact Or.inr (Or.inl rfl) | exact Or.inr (Or.inr rfl))
    (hd : (x == ("__debug__" : PySem.Str)) = false := by decide) (hcd : (x == ("__classdict__" : PySem.Str)) = false := by decide) : DT X W (.Compare e [.In] [.Name x np] pos) (bDIn false i fk) :=
  PT_imp (pt_cmp (pc_din hu he (pe_var (i := i) hN hv hd hcd))) fun σ H Q q => tB_din false i q
theorem dt_dnin (i : Nat) (hu : X.A.units + 1 < cLine) (he : DE X W e fk) (hN : X.N[i]? = some x := by rfl) (hv : Vis X.env.scope x := by first | exact Or.inl rfl | exact Or.inr (Or.inl rfl) | exact Or.inr (Or.inr rfl))
    (hd : (x == ("__debug__" : PySem.Str)) = false := by decide) (hcd : (x == ("__classdict__" : PySem.Str)) = false := by decide) : DT X W (.Compare e [.NotIn] [.Name x np] pos) (bDIn true i fk) :=
  PT_imp (pt_cmp (pc_dnotin hu he (pe_var (i := i) hN hv hd hcd))) fun σ H Q q => tB_din true i q
theorem ds_dput (i : Nat) {ek ev : Expr} (hu : X.A.units + 1 < cLine) (hk : DE X W ek fk) (hval : DE X W ev fv) (hN : X.N[i]? = some x := by rfl) (hv : Vis X.env.scope x := by first | exact Or.inl rfl | exact Or.inr (Or.inl rfl) | exact Or.inr (Or.inr rfl))
    (hs : swapsWith ev (some (.Subscript (.Name x np) ek p2)) pos.line X.env = pure false := by rfl)
    (hd : (x == ("__debug__" : PySem.Str)) = false := by decide) (hcd : (x == ("__classdict__" : PySem.Str)) = false := by decide) : DS X B W (.Assign [.Subscript (.Name x np) ek p2] ev pos) (DL.sDPut i fk fv) := by
  intro fl ml
  refine PS_imp (ps_dput hu (pe_var (i := i) hN hv hd hcd) hk hval hs) fun E σ H ⟨Γ, S, Hf, μ, rl, o⟩ => ?_
  refine ⟨Γ, S, Hf, μ, rl.sl, rl.so, SOut.bind rl o fun c S1 v H1 Hf1 μ1 _ s1 r1 rv o1 => ?_⟩
  cases e0 : curO Γ S1 i with
  | none => simp only [e0] at o1; exact o1.elim
  | some o0 =>
    simp only [e0] at o1
    obtain ⟨p, u, e1, e2, e3⟩ := cur_ok r1.sl r1.so e0
    refine ⟨.ref p, e1, Γ, S1, Hf1, μ1, r1.sl, r1.so, SOut.bind r1 o1 fun k S2 y H2 Hf2 μ2 _ s2 r2 ry o2 => ?_⟩
    cases e4 : curO Γ S2 i with
    | none => simp only [e4] at o2; exact o2.elim
    | some o4 =>
      simp only [e4] at o2
      obtain ⟨p', u', e1', e2', e3'⟩ := cur_ok r2.sl r2.so e4
      rw [e1] at e1'
      cases e1'
      cases e5 : dPut o4 k c with
      | none => simp only [e5] at o2; exact o2.elim
      | some o5 =>
        simp only [e5] at o2
        obtain ⟨u5, g, h5⟩ := dPut_ok r2.so e2' e3' ry (s2.rep rv) e5
        exact ⟨p, _, rfl, g, o2 _ _ _ _ (put_ok r2 e4 e1 h5)⟩
theorem de_dlen (i : Nat) {lp : Pos} (hg : Gl X "len") (hm : X.mg "len" = none) (hN : X.N[i]? = some x := by rfl) (hv : Vis X.env.scope x := by first | exact Or.inl rfl | exact Or.inr (Or.inl rfl) | exact Or.inr (Or.inr rfl))
    (hd : (x == ("__debug__" : PySem.Str)) = false := by decide) (hcd : (x == ("__classdict__" : PySem.Str)) = false := by decide)
    (he : starEach [.Name x np] X.env = (false, eval (.Name x np) X.env) :: starEach [] X.env := by rfl) : DE X W (.Call (.Name "len" lp) [.Name x np] [] pos) (eDLen i) :=
  PE_imp (pe_callB call_len_dT hg hm boot_len (pa_cons (pe_var (i := i) hN hv hd hcd) pa_nil he) (by decide) (by decide) he rfl) fun σ H Q ⟨Γ, S, Hf, μ, sl, so, o⟩ => by
    unfold eDLen at o
    split at o
    next kvs e0 =>
      obtain ⟨p, u, e1, e2, ⟨xs, rfl, rk⟩⟩ := cur_ok sl so e0
      refine ⟨.ref p, e1, p, xs, rfl, e2, ?_⟩
      rw [rk.length]
      exact o _ H Hf μ (Step.refl _ _ _) so (by simp only [Rep])
    · exact o.elim
end

/-! ### x[i] = v; x[i], y = pair -/
def sIPut (i : Nat) (fk fv : Ev D) : Es := fun Γ S => bindS Γ (fv Γ S) fun v S1 => match curO Γ S1 i with
  | some _ => bindS Γ (fk Γ S1) fun k S2 => match curO Γ S2 i, k with
    | some (.lst ds), .int z => match ixN ds.length z with
      | some n => .nx (putO Γ S2 i (.lst (ds.set n v))).1 (putO Γ S2 i (.lst (ds.set n v))).2
      | none => .no
    | _, _ => .no
  | none => .no
def sPot (i j : Nat) (z : Int) (f : Ev D) : Es := fun Γ S => bindS Γ (f Γ S) fun d S1 => match d with
  | .tup [a, b] => match curO Γ S1 i with
    | some (.lst ds) => match ixN ds.length z with
      | some n => .nx ((putO Γ S1 i (.lst (ds.set n a))).1.set j (some (.val b))) (putO Γ S1 i (.lst (ds.set n a))).2
      | none => .no
    | _ => .no
  | _ => .no
section
variable {X : Cx} {B : Base} {W : WX} {e : Expr} {fk fv f : Ev D} {x y : PySem.Str} {np pos p2 tp yp kp : Pos} {kk t : Nat}
theorem ds_iput (i : Nat) {ek ev : Expr} (hk : DE X W ek fk) (hval : DE X W ev fv) (hN : X.N[i]? = some x := by rfl) (hv : Vis X.env.scope x := by first | exact Or.inl rfl | exact Or.inr (Or.inl rfl) | exact Or.inr (Or.inr rfl))
    (ha : ∀ v, assign (.Subscript (.Name x np) ek p2) X.env v = (do
      let ov ← holding [v] (eval (.Name x np) X.env)
      let iv ← holding [v, ov] (eval ek X.env)
      standAt p2
      holding [v, ov, iv] (setItem ov iv v)
      release [v, ov, iv] []) := by intro _; rfl)
    (hs : swapsWithSole [.Subscript (.Name x np) ek p2] ev pos.line X.env = pure false := by rfl) (hw : swappedStores [.Subscript (.Name x np) ek p2] ev X.env = pure none := by rfl)
    (h1 : (assignEach [.Subscript (.Name x np) ek p2] X.env).map (·.2) = [assign (.Subscript (.Name x np) ek p2) X.env] := by rfl)
    (hd : (x == ("__debug__" : PySem.Str)) = false := by decide) (hcd : (x == ("__classdict__" : PySem.Str)) = false := by decide) : DS X B W (.Assign [.Subscript (.Name x np) ek p2] ev pos) (sIPut i fk fv) := by
  intro fl ml
  refine PS_imp (ps_asg hval (pg_sub (pe_var (i := i) hN hv hd hcd) hk set_list ha) hs hw h1) fun E σ H ⟨Γ, S, Hf, μ, rl, o⟩ => ?_
  refine ⟨Γ, S, Hf, μ, rl.sl, rl.so, SOut.bind rl o fun c S1 v H1 Hf1 μ1 _ s1 r1 rv o1 => ?_⟩
  cases e0 : curO Γ S1 i with
  | none => simp only [e0] at o1; exact o1.elim
  | some o0 =>
    simp only [e0] at o1
    obtain ⟨p, u, e1, e2, e3⟩ := cur_ok r1.sl r1.so e0
    refine ⟨.ref p, e1, Γ, S1, Hf1, μ1, r1.sl, r1.so, SOut.bind r1 o1 fun k S2 y H2 Hf2 μ2 _ s2 r2 ry o2 => ?_⟩
    split at o2
    next ds z e4 _ =>
      obtain ⟨p', u', e1', e2', ⟨xs, rfl, hz, rx⟩⟩ := cur_ok r2.sl r2.so e4
      rw [e1] at e1'
      cases e1'
      split at o2
      next n en =>
        simp only [Rep] at ry
        subst ry
        have h5 : ORep X.K μ2 Hf2 (.lst (ds.set n c)) (.lst (xs.set n v)) := ⟨_, rfl, by rw [List.length_set]; exact hz, RepL.set n rx (s2.rep rv)⟩
        exact ⟨p, xs, z, n, rfl, rfl, e2', by rw [rx.length]; exact en, o2 _ _ _ _ (put_ok r2 e4 e1 h5)⟩
      · exact o2.elim
    · exact o2.elim
theorem ds_pot (i j : Nat) (z : Int) (hc : X.calm = true) (hval : DE X W e f) (hNd : X.N.Nodup) (hN : X.N[i]? = some x := by rfl) (hv : Vis X.env.scope x := by first | exact Or.inl rfl | exact Or.inr (Or.inl rfl) | exact Or.inr (Or.inr rfl))
    (hNj : X.N[j]? = some y := by rfl) (hy : Loc X.env.scope y := by first | exact Or.inl rfl | exact Or.inr rfl) (hfy : X.fn y = true ∨ X.env.scope.names.lookup y = some .local := by first | exact .inl rfl | exact .inr rfl | assumption)
    (ha : ∀ v, assign (.Subscript (.Name x np) (.Constant (.int z) t kp) p2) X.env v = (do
      let ov ← holding [v] (eval (.Name x np) X.env)
      let iv ← holding [v, ov] (eval (.Constant (.int z) t kp) X.env)
      standAt p2
      holding [v, ov, iv] (setItem ov iv v)
      release [v, ov, iv] []) := by intro _; rfl)
    (hs1 : (assignEach [.Subscript (.Name x np) (.Constant (.int z) t kp) p2, .Name y yp] X.env).map (·.2) = assign (.Subscript (.Name x np) (.Constant (.int z) t kp) p2) X.env :: (assignEach [.Name y yp] X.env).map (·.2) := by rfl)
    (hs2 : (assignEach [.Name y yp] X.env).map (·.2) = assign (.Name y yp) X.env :: (assignEach [] X.env).map (·.2) := by rfl)
    (hn : (assignEach [.Subscript (.Name x np) (.Constant (.int z) t kp) p2, .Name y yp] X.env).length = 2 := by rfl) (hst : (assignEach [.Subscript (.Name x np) (.Constant (.int z) t kp) p2, .Name y yp] X.env).findIdx? (·.1) = none := by rfl)
    (hs : swapsWithSole [.Tuple [.Subscript (.Name x np) (.Constant (.int z) t kp) p2, .Name y yp] kk tp] e pos.line X.env = pure false := by rfl) (hw : swappedStores [.Tuple [.Subscript (.Name x np) (.Constant (.int z) t kp) p2, .Name y yp] kk tp] e X.env = pure none := by rfl)
    (h1 : (assignEach [.Tuple [.Subscript (.Name x np) (.Constant (.int z) t kp) p2, .Name y yp] kk tp] X.env).map (·.2) = [assign (.Tuple [.Subscript (.Name x np) (.Constant (.int z) t kp) p2, .Name y yp] kk tp) X.env] := by rfl)
    (hd : (x == ("__debug__" : PySem.Str)) = false := by decide) (hcd : (x == ("__classdict__" : PySem.Str)) = false := by decide) :
    DS X B W (.Assign [.Tuple [.Subscript (.Name x np) (.Constant (.int z) t kp) p2, .Name y yp] kk tp] e pos) (sPot i j z f) := by
  intro fl ml
  refine PS_imp (ps_asg hval (pg_tup hc (pgs_cons (pg_sub (pe_var (i := i) hN hv hd hcd) pe_int set_list ha) (pgs_cons (pg_name hNd hNj hy hfy) pgs_nil hs2) hs1) hn hst) hs hw h1) fun E σ H ⟨Γ, S, Hf, μ, rl, o⟩ => ?_
  refine ⟨Γ, S, Hf, μ, rl.sl, rl.so, SOut.bind rl o fun c S1 v H1 Hf1 μ1 _ s1 r1 rv o1 => ?_⟩
  split at o1
  next a b _ =>
    simp only [Rep, RepL] at rv
    obtain ⟨q, xs, rfl, hq, _, va, _, rfl, ra, vb, _, rfl, rb, rfl⟩ := rv
    split at o1
    next ds e4 =>
      obtain ⟨p, u, e1, e2, ⟨xs, rfl, hz, rx⟩⟩ := cur_ok r1.sl r1.so e4
      split at o1
      next n en =>
        have h5 : ORep X.K μ1 Hf1 (.lst (ds.set n a)) (.lst (xs.set n va)) := ⟨_, rfl, by rw [List.length_set]; exact hz, RepL.set n rx ra⟩
        have r5 := put_ok r1 e4 e1 h5
        refine ⟨q, [va, vb], rfl, r1.so.sub.tp hq, rfl, va, [vb], rfl, .ref p, e1, p, xs, z, n, rfl, rfl, e2, by rw [rx.length]; exact en, vb, [], rfl, ?_⟩
        exact ⟨rfl, o1 _ _ _ _ (r5.setV j rb)⟩
      · exact o1.elim
    · exact o1.elim
  · exact o1.elim
end

/-! ### unpacking -/
def sUnp (t : Tgt) (f : Ev D) : Es := fun Γ S => bindS Γ (f Γ S) fun d S1 => match t.run d Γ with
  | some Γ' => .nx Γ' S1
  | none => .no
section
variable {X : Cx} {B : Base} {W : WX} {e tg : Expr} {f : Ev D} {t : Tgt} {pos : Pos}
theorem ds_unp (h : DE X W e f) (hg : DG X tg t) (hs : swapsWithSole [tg] e pos.line X.env = pure false := by rfl) (hw : swappedStores [tg] e X.env = pure none := by rfl)
    (h1 : (assignEach [tg] X.env).map (·.2) = [assign tg X.env] := by rfl) : DS X B W (.Assign [tg] e pos) (sUnp t f) := by
  intro fl ml
  refine PS_imp (ps_asg h hg hs hw h1) fun E σ H ⟨Γ, S, Hf, μ, rl, o⟩ => ?_
  refine ⟨Γ, S, Hf, μ, rl.sl, rl.so, SOut.bind rl o fun d S1 v H1 Hf1 μ1 _ s1 r1 rv o1 => ?_⟩
  refine ⟨d, Γ, S1, Hf1, μ1, r1.sl, r1.so, rv, ?_⟩
  cases e1 : t.run d Γ with
  | none => simp only [e1] at o1; exact o1.elim
  | some Γ' =>
    simp only [e1] at o1
    exact fun σ' sl' ow' _ => o1 σ' H1 Hf1 μ1 ⟨sl', r1.so, r1.st, fun j oo p z1 z2 => let ⟨y1, y2⟩ := ow' j oo p z1 z2; r1.own j oo p y1 y2, r1.fz, r1.pm⟩
end

/-! ### a < b < c -/
def bCh (op op' : Op2) (fa fb fc : Ev D) : Ev Bool := fun Γ S => (fa Γ S).bind fun x S1 => (fb Γ S1).bind fun y S2 => match op S2 x y with
  | some (.bl true) => (fc Γ S2).bind fun z S3 => match op' S3 y z with
    | some (.bl b) => .ok b S3
    | _ => .no
  | some (.bl false) => .ok false S2
  | _ => .no
section
variable {X : Cx} {W : WX} {a b c : Expr} {fa fb fc : Ev D} {pos : Pos} {r r' : R2} {p p' : Op2}
theorem tT_ch {K : PySem.W.Frag} (hp : OpB K r p) (hp' : OpB K r' p') {σ : L2.St} {H : Hp} {Q : VK} (q : tT K W (bCh p p' fa fb fc) σ H fun k H1 => Q (.bl k) H1) : tChain r r' (tBo K W fa) (tBo K W fb) (tBo K W fc) σ H Q := by
  obtain ⟨Γ, S, Hf, μ, sl, so, o⟩ := q
  refine ⟨Γ, S, Hf, μ, sl, so, Out.bind sl rm_eq o fun x S1 v H1 Hf1 μ1 _ s1 sl1 so1 r1 o1 => ?_⟩
  refine ⟨Γ, S1, Hf1, μ1, sl1, so1, Out.bind sl1 rm_eq o1 fun y S2 u H2 Hf2 μ2 _ s2 sl2 so2 r2 o2 => ?_⟩
  cases e : p S2 x y with
  | none => simp only [e] at o2; exact o2.elim
  | some z =>
    cases z <;> first | (simp only [e] at o2; exact o2.elim) | skip
    rename_i k
    refine hp S2 H2 Hf2 μ2 v u x y (.bl k) _ so2 (BorR.bor sl2 (BorR.keep (H0' := H) s2 r1)) (BorR.bor sl2 r2) e fun w H3 Hf3 μ3 s3 so3 rw' => ?_
    simp only [Rep] at rw'
    subst rw'
    refine ⟨k, rfl, ?_⟩
    cases k with
    | false =>
      simp only [e] at o2
      rw [if_neg Bool.false_ne_true]
      exact o2 false H3 Hf3 μ3 s3 so3 rfl
    | true =>
      simp only [e] at o2
      rw [if_pos rfl]
      have o3 := Out.later rm_eq s3 o2
      have sl3 := sl2.step s3
      refine ⟨Γ, S2, Hf3, μ3, sl3, so3, Out.bind sl3 rm_eq o3 fun z S4 w4 H4 Hf4 μ4 _ s4 sl4 so4 r4 o4 => ?_⟩
      cases e5 : p' S4 y z with
      | none => simp only [e5] at o4; exact o4.elim
      | some t =>
        cases t <;> first | (simp only [e5] at o4; exact o4.elim) | skip
        rename_i b5
        simp only [e5] at o4
        refine hp' S4 H4 Hf4 μ4 u w4 y z (.bl b5) Q so4 (BorR.bor sl4 (BorR.keep (H0' := H) s4 (BorR.keep (H0' := H) s3 r2))) (BorR.bor sl4 r4) e5 fun w5 H5 Hf5 μ5 s5 so5 rw5 => ?_
        simp only [Rep] at rw5
        subst rw5
        exact o4 b5 H5 Hf5 μ5 s5 so5 rfl
theorem de_ch {op op' : CmpOp} (ho : OpR X (compareOp op) r) (ho' : OpR X (compareOp op') r') (hp : OpB X.K r p) (hp' : OpB X.K r' p') (ha : DB X W a fa) (hb : DB X W b fb) (hc : DB X W c fc)
    (hm : lastMarks [op, op'] [b, c] = false := by with_unfolding_all rfl) : DE X W (.Compare a [op, op'] [b, c] pos) (ofB (bCh p p' fa fb fc)) :=
  PE_imp (pe_chain ho ho' ha hb hc hm) fun σ H Q ⟨Γ, S, Hf, μ, sl, so, o⟩ => tT_ch hp hp' ⟨Γ, S, Hf, μ, sl, so, Out.bind sl rm_rep o fun x S1 v H1 Hf1 μ1 _ s1 sl1 so1 r1 o1 => by
    obtain rfl : x = v := r1
    exact o1 (.bl x) H1 Hf1 μ1 (Step.refl _ _ _) so1 (by simp only [Rep])⟩
theorem dt_ch {op op' : CmpOp} (ho : OpR X (compareOp op) r) (ho' : OpR X (compareOp op') r') (hp : OpB X.K r p) (hp' : OpB X.K r' p') (ha : DB X W a fa) (hb : DB X W b fb) (hc : DB X W c fc)
    (hm : lastMarks [op, op'] [b, c] = false := by with_unfolding_all rfl) : DT X W (.Compare a [op, op'] [b, c] pos) (bCh p p' fa fb fc) :=
  PT_imp (pt_chain ho ho' ha hb hc hm) fun σ H Q ⟨Γ, S, Hf, μ, sl, so, o⟩ => tT_ch hp hp' ⟨Γ, S, Hf, μ, sl, so, by
    cases e : bCh p p' fa fb fc Γ S with
    | no => rw [e] at o; exact o
    | ex C fs S1 => rw [e] at o; exact o
    | ok k S1 => rw [e] at o; exact fun v H1 Hf1 μ1 s1 so1 rv => ⟨v, rfl, o v H1 Hf1 μ1 s1 so1 rv⟩⟩
end
end DL
set_option Elab.async false
set_option linter.all false
set_option maxRecDepth 100000
/-! DLk: several names at once, new objects among the values. -/
namespace DL
open PySem PySem.Spec PyProof.Rows L2

def MxL (K : PySem.W.Frag) (H' Hf' : Hp) (μ' : List Addr) : Hp → List Sl → List V → Prop
  | _, [], vs => vs = []
  | H0, .val d :: ss, vs => ∃ x r, vs = x :: r ∧ Rep K μ' Hf' d x ∧ MxL K H' Hf' μ' H0 ss r
  | H0, .own o :: ss, vs => ∃ p u r Hm, vs = .ref p :: r ∧ H0 p = none ∧ Hm p ≠ none ∧ (∀ a, H0 a ≠ none → Hm a ≠ none) ∧ H' p = some u ∧ ORep K μ' Hf' o u ∧ Hf' p = none ∧ p ∉ μ' ∧ MxL K H' Hf' μ' Hm ss r
def MxR (K : PySem.W.Frag) : RR (List Sl) (List V) := fun H0 H' Hf' μ' ss vs => MxL K H' Hf' μ' H0 ss vs
section
variable {K : PySem.W.Frag} {B : Base} {Γ : Gm} {S : Store} {σ : L2.St} {H Hf H' Hf' : Hp} {μ μ' : List Addr} {W : WX}
theorem MxL.mono : ∀ {ss : List Sl} {vs : List V} {H0 H1 : Hp}, (∀ a, H0 a ≠ none → H1 a ≠ none) → MxL K H' Hf' μ' H1 ss vs → MxL K H' Hf' μ' H0 ss vs
  | [], _, _, _, _, h => h
  | .val d :: ss, _, _, _, t, ⟨x, r, e, q, h⟩ => ⟨x, r, e, q, MxL.mono t h⟩
  | .own o :: ss, _, _, _, t, ⟨p, u, r, Hm, e, n, m, l, q⟩ => ⟨p, u, r, Hm, e, Classical.byContradiction fun z => t p z n, m, fun a z => l a (t a z), q⟩
theorem rm_mx : RMono (MxR K) := fun _ _ _ _ _ _ _ t h => MxL.mono t h
theorem MxL.length : ∀ {ss : List Sl} {vs : List V} {H0 : Hp}, MxL K H' Hf' μ' H0 ss vs → vs.length = ss.length
  | [], _, _, h => by rw [show _ = [] from h]; rfl
  | .val d :: ss, _, _, ⟨x, r, e, q, h⟩ => by rw [e, List.length_cons, List.length_cons, MxL.length h]
  | .own o :: ss, _, _, ⟨p, u, r, Hm, e, n, m, l, _, _, _, _, q⟩ => by rw [e, List.length_cons, List.length_cons, MxL.length q]
theorem MxL.step (s : Step H Hf μ H' Hf' μ') : ∀ {ss : List Sl} {vs : List V} {H0 : Hp}, MxL K H Hf μ H0 ss vs → MxL K H' Hf' μ' H0 ss vs
  | [], _, _, h => h
  | .val d :: ss, _, _, ⟨x, r, e, q, h⟩ => ⟨x, r, e, s.rep q, MxL.step s h⟩
  | .own o :: ss, _, _, ⟨p, u, r, Hm, e, n, m, l, h1, h2, h3, h4, q⟩ =>
    let pv := Priv.step (u := u) ⟨h1, h3, h4⟩ s
    ⟨p, u, r, Hm, e, n, m, l, pv.at_, h2.mono s.fz s.mu, pv.fz, pv.nm, MxL.step s q⟩
def setM : Gm → List Nat → List Sl → Gm
  | Γ, i :: is, s :: ss => setM (Γ.set i (some s)) is ss
  | Γ, _, _ => Γ
def setW : L2.St → List Nat → List V → L2.St
  | σ, i :: is, v :: vs => setW (σ.set i (some v)) is vs
  | σ, _, _ => σ
theorem Rl.setM : ∀ {is : List Nat} {ss : List Sl} {vs : List V} {Γ : Gm} {σ : L2.St} {H0 : Hp}, Rl K B Γ S σ H Hf μ → MxL K H Hf μ H0 ss vs → (∀ (j : Nat) (o : SO) (p : Addr), Γ[j]? = some (some (.own o)) → σ[j]? = some (some (V.ref p)) → H0 p ≠ none) →
    (∀ a, B.H a ≠ none → H0 a ≠ none) → Rl K B (DL.setM Γ is ss) S (setW σ is vs) H Hf μ
  | [], ss, vs, Γ, σ, H0, r, m, ho, hb => by unfold DL.setM setW; exact r
  | i :: is, [], vs, Γ, σ, H0, r, m, ho, hb => by
    obtain rfl : vs = [] := m
    unfold DL.setM setW; exact r
  | i :: is, .val d :: ss, vs, Γ, σ, H0, r, m, ho, hb => by
    obtain ⟨x, t, rfl, q, m⟩ := m
    have z := Rl.setM (is := is) (r.setV i q) m (fun j o p e1 e2 => let ⟨z1, z2⟩ := own_setV e1 e2; ho j o p z1 z2) hb
    exact z
  | i :: is, .own o :: ss, vs, Γ, σ, H0, r, m, ho, hb => by
    obtain ⟨p, u, t, Hm, rfl, n, hm, l, h1, h2, h3, h4, m⟩ := m
    have hB : B.H p = none := Classical.byContradiction fun z => hb p z n
    have z := Rl.setM (is := is) (r.setN i h1 h2 h3 h4 hB fun j o' _ e1 e2 => ho j o' p e1 e2 n) m (fun j o' q e1 e2 => ?_) fun a z => l a (hb a z)
    · exact z
    by_cases hj : i = j
    · subst hj
      by_cases hl : i < σ.length
      · rw [List.getElem?_set_self hl] at e2
        cases e2
        exact hm
      · rw [List.getElem?_eq_none (by rw [List.length_set]; omega)] at e2
        cases e2
    · rw [List.getElem?_set_ne hj] at e1 e2
      exact l q (ho j o' q e1 e2)
end
def tM (K : PySem.W.Frag) (W : WX) (f : Ev (List Sl)) : TA := fun σ H Q => ∃ Γ S Hf μ, SlOk K Γ σ H Hf μ ∧ StoOk K S H Hf μ ∧ Out K (MxR K) W σ H Hf μ (f Γ S) Q
abbrev DM (X : Cx) (W : WX) (es : List Expr) (f : Ev (List Sl)) : Prop := PA X es (tM X.K W f)
def mNil : Ev (List Sl) := fun _ S => .ok [] S
def mVal (f : Ev D) (g : Ev (List Sl)) : Ev (List Sl) := fun Γ S => (f Γ S).bind fun d S1 => (g Γ S1).bind fun ds S2 => .ok (.val d :: ds) S2
def mNew (f : Ev SO) (g : Ev (List Sl)) : Ev (List Sl) := fun Γ S => (f Γ S).bind fun d S1 => (g Γ S1).bind fun ds S2 => .ok (.own d :: ds) S2
section
variable {X : Cx} {B : Base} {W : WX} {e : Expr} {es : List Expr} {f : Ev D} {fn : Ev SO} {g : Ev (List Sl)}
theorem dm_nil : DM X W [] mNil := PA_imp pa_nil fun σ H Q ⟨Γ, S, Hf, μ, sl, so, o⟩ => o [] H Hf μ (Step.refl _ _ _) so rfl
/-- the entry is held -/
abbrev MxH (K : PySem.W.Frag) (H0 : Hp) : RR (List Sl) (List V) := fun _ H' Hf' μ' ss vs => MxL K H' Hf' μ' H0 ss vs
theorem rm_mxh {K : PySem.W.Frag} {H0 : Hp} : RMono (MxH K H0) := fun _ _ _ _ _ _ _ _ h => h
theorem out_hold {K : PySem.W.Frag} {σ : L2.St} {H Hf : Hp} {μ : List Addr} {r : RE (List Sl)} {Q : List V → Hp → Prop} (o : Out K (MxR K) W σ H Hf μ r Q) : Out K (MxH K H) W σ H Hf μ r Q := by
  cases r with
  | ok d S => exact o
  | ex C fs S => exact o
  | no => exact o
theorem dm_val (h : DE X W e f) (k : DM X W es g) (hs : starEach (e :: es) X.env = (false, eval e X.env) :: starEach es X.env := by rfl) : DM X W (e :: es) (mVal f g) :=
  PA_imp (pa_cons h k hs) fun σ H Q ⟨Γ, S, Hf, μ, sl, so, o⟩ => ⟨Γ, S, Hf, μ, sl, so, Out.bind sl rm_mxh (out_hold o) fun d S1 v H1 Hf1 μ1 _ s1 sl1 so1 r1 o1 =>
    ⟨Γ, S1, Hf1, μ1, sl1, so1, Out.bind sl1 rm_mxh o1 fun ds S2 vs H2 Hf2 μ2 _ s2 sl2 so2 r2 o2 => o2 (v :: vs) H2 Hf2 μ2 (Step.refl _ _ _) so2 ⟨v, vs, rfl, s2.rep r1, MxL.mono s1.th r2⟩⟩⟩
theorem dm_new (h : DN X W e fn) (k : DM X W es g) (hs : starEach (e :: es) X.env = (false, eval e X.env) :: starEach es X.env := by rfl) : DM X W (e :: es) (mNew fn g) :=
  PA_imp (pa_cons h k hs) fun σ H Q ⟨Γ, S, Hf, μ, sl, so, o⟩ => ⟨Γ, S, Hf, μ, sl, so, Out.bind sl rm_mxh (out_hold o) fun d S1 v H1 Hf1 μ1 _ s1 sl1 so1 r1 o1 =>
    ⟨Γ, S1, Hf1, μ1, sl1, so1, Out.bind sl1 rm_mxh o1 fun ds S2 vs H2 Hf2 μ2 _ s2 sl2 so2 r2 o2 => by
      obtain ⟨p, u, rfl, hn, hp, ho, hf, hm⟩ := r1
      have pv := Priv.step (u := u) ⟨hp, hf, hm⟩ s2
      exact o2 (.ref p :: vs) H2 Hf2 μ2 (Step.refl _ _ _) so2 ⟨p, u, vs, H1, rfl, hn, (by rw [hp]; exact fun z => nomatch z), s1.th, pv.at_, ho.mono s2.fz s2.mu, pv.fz, pv.nm, r2⟩⟩⟩
/-! ### the assignment -/
def sPar (is : List Nat) (g : Ev (List Sl)) : Es := fun Γ S => bindS Γ (g Γ S) fun ss S1 => if ss.length = is.length then .nx (setM Γ is ss) S1 else .no
theorem tPar_of {K : PySem.W.Frag} {is : List Nat} {E : Ends} {σ : L2.St} {H : Hp} (h : tS K B W (sPar is g) E σ H) : tM K W g σ H fun vs H1 => vs.length = is.length ∧ E.nx (setW σ is vs) H1 ∧ ∀ q u, H1 q = none → E.nx (setW σ is vs) (upd H1 q u) := by
  obtain ⟨Γ, S, Hf, μ, r, o⟩ := h
  refine ⟨Γ, S, Hf, μ, r.sl, r.so, SOut.bind r o fun ss S1 vs H1 Hf1 μ1 _ s1 r1 re o1 => ?_⟩
  have re : MxL K H1 Hf1 μ1 H ss vs := re
  split at o1
  next hl =>
    have ho : ∀ (j : Nat) (o : SO) (p : Addr), Γ[j]? = some (some (.own o)) → σ[j]? = some (some (V.ref p)) → H p ≠ none := fun j o p e1 e2 => by
      obtain ⟨p', u', e3, e4, _⟩ := r.sl.own j o e1
      rw [e3] at e2
      cases e2
      rw [e4]
      exact fun z => nomatch z
    refine ⟨re.length.trans hl, o1 _ _ _ _ (Rl.setM r1 re ho r.st.th), fun q u hq => ?_⟩
    obtain ⟨st, so2, _⟩ := Step.layN (u := u) r1.so hq
    exact o1 _ _ _ _ (Rl.setM (r1.step st so2) (MxL.step st re) ho r.st.th)
  · exact o1.elim
/-- names as targets -/
def tNames (is : List Nat) : TGs := fun vs σ H Q => vs.length = is.length ∧ Q (setW σ is vs) H
abbrev DNm (X : Cx) (tgs : List Expr) (is : List Nat) : Prop := PGs X tgs (tNames is)
theorem nm_nil {X : Cx} : DNm X [] [] := PGs_imp pgs_nil fun vs σ H Q ⟨h, q⟩ => by
  obtain rfl : vs = [] := List.eq_nil_of_length_eq_zero h
  exact ⟨rfl, q⟩
theorem nm_cons {X : Cx} {tgs : List Expr} {is : List Nat} {x : PySem.Str} {pos : Pos} (i : Nat) (hN : X.N.Nodup) (k : DNm X tgs is) (hi : X.N[i]? = some x := by rfl) (hx : Loc X.env.scope x := by first | exact Or.inl rfl | exact Or.inr rfl)
    (hf : X.fn x = true ∨ X.env.scope.names.lookup x = some .local := by first | exact .inl rfl | exact .inr rfl | assumption)
    (hs : (assignEach (.Name x pos :: tgs) X.env).map (·.2) = assign (.Name x pos) X.env :: (assignEach tgs X.env).map (·.2) := by rfl) : DNm X (.Name x pos :: tgs) (i :: is) :=
  PGs_imp (pgs_cons (pg_name hN hi hx hf) k hs) fun vs σ H Q ⟨h, q⟩ => by
    cases vs with
    | nil => cases h
    | cons v vs => exact ⟨v, vs, rfl, by simpa using h, q⟩
theorem ds_parN {tgs : List Expr} {is : List Nat} {kt k2 : Nat} {pt pt2 pos : Pos} (hc : X.calm = true) (ha : DM X W es g) (hn : DNm X tgs is) (hz : is.length ≤ 1000 := by decide)
    (hl : (assignEach tgs X.env).length = is.length := by rfl) (hst : (assignEach tgs X.env).findIdx? (·.1) = none := by rfl)
    (hs : swapsWithSole [.Tuple tgs kt pt] (.Tuple es k2 pt2) pos.line X.env = pure false := by rfl) (hw : swappedStores [.Tuple tgs kt pt] (.Tuple es k2 pt2) X.env = pure none := by rfl)
    (h1 : (assignEach [.Tuple tgs kt pt] X.env).map (·.2) = [assign (.Tuple tgs kt pt) X.env] := by rfl) : DS X B W (.Assign [.Tuple tgs kt pt] (.Tuple es k2 pt2) pos) (sPar is g) := by
  intro fl ml
  refine PS_imp (ps_asg (pe_tup ha) (pg_tup hc hn hl hst) hs hw h1) fun E σ H h => ?_
  obtain ⟨Γ, S, Hf, μ, sl, so, o⟩ := tPar_of h
  refine ⟨Γ, S, Hf, μ, sl, so, ?_⟩
  cases e : g Γ S with
  | no => rw [e] at o; exact o
  | ex C fs S1 => rw [e] at o; exact o
  | ok ss S1 =>
    rw [e] at o
    intro vs H1 Hf1 μ1 s1 so1 r1
    obtain ⟨hl2, _, q2⟩ := o vs H1 Hf1 μ1 s1 so1 r1
    refine ⟨by rw [hl2, sizeLine_eq]; omega, fun p hp => ⟨p, vs, rfl, SqT.of upd_same, hl2, hl2, q2 p _ hp⟩⟩
theorem ds_par2 {i j : Nat} {x y : PySem.Str} {a b : Expr} {px py pt pt2 pos : Pos} {kt k2 : Nat} (hc : X.calm = true) (hN : X.N.Nodup) (ha : DM X W [a, b] g) (hij : i ≠ j := by decide) (hi : X.N[i]? = some x := by rfl) (hj : X.N[j]? = some y := by rfl)
    (hx : X.env.scope.names.lookup x = some .local := by rfl) (hy : X.env.scope.names.lookup y = some .local := by rfl)
    (hw : swappedStores [.Tuple [.Name x px, .Name y py] kt pt] (.Tuple [a, b] k2 pt2) X.env = pure (some [x, y]) := by with_unfolding_all rfl)
    (hs : swapsWithSole [.Tuple [.Name x px, .Name y py] kt pt] (.Tuple [a, b] k2 pt2) pos.line X.env = pure false := by rfl) :
    DS X B W (.Assign [.Tuple [.Name x px, .Name y py] kt pt] (.Tuple [a, b] k2 pt2) pos) (sPar [i, j] g) := by
  intro fl ml
  refine PS_imp (ps_par hc hN hi hj hij hx hy ha hw hs) fun E σ H h => ?_
  obtain ⟨Γ, S, Hf, μ, sl, so, o⟩ := tPar_of h
  refine ⟨Γ, S, Hf, μ, sl, so, ?_⟩
  cases e : g Γ S with
  | no => rw [e] at o; exact o
  | ex C fs S1 => rw [e] at o; exact o
  | ok ss S1 =>
    rw [e] at o
    intro vs H1 Hf1 μ1 s1 so1 r1
    obtain ⟨hl2, q1, _⟩ := o vs H1 Hf1 μ1 s1 so1 r1
    match vs, hl2 with
    | [v, w], _ => exact ⟨v, w, rfl, q1⟩
theorem ds_par3 {i j l : Nat} {x y z : PySem.Str} {a b c : Expr} {px py pz pt pt2 pos : Pos} {kt k2 : Nat} (hc : X.calm = true) (hN : X.N.Nodup) (ha : DM X W [a, b, c] g) (hij : i ≠ j := by decide) (hil : i ≠ l := by decide) (hjl : j ≠ l := by decide)
    (hi : X.N[i]? = some x := by rfl) (hj : X.N[j]? = some y := by rfl) (hl : X.N[l]? = some z := by rfl)
    (hx : X.env.scope.names.lookup x = some .local := by rfl) (hy : X.env.scope.names.lookup y = some .local := by rfl) (hz : X.env.scope.names.lookup z = some .local := by rfl)
    (hw : swappedStores [.Tuple [.Name x px, .Name y py, .Name z pz] kt pt] (.Tuple [a, b, c] k2 pt2) X.env = pure (some [x, y, z]) := by with_unfolding_all rfl)
    (hs : swapsWithSole [.Tuple [.Name x px, .Name y py, .Name z pz] kt pt] (.Tuple [a, b, c] k2 pt2) pos.line X.env = pure false := by rfl) :
    DS X B W (.Assign [.Tuple [.Name x px, .Name y py, .Name z pz] kt pt] (.Tuple [a, b, c] k2 pt2) pos) (sPar [i, j, l] g) := by
  intro fl ml
  refine PS_imp (ps_par3 hc hN hi hj hl hij hil hjl hx hy hz ha hw hs) fun E σ H h => ?_
  obtain ⟨Γ, S, Hf, μ, sl, so, o⟩ := tPar_of h
  refine ⟨Γ, S, Hf, μ, sl, so, ?_⟩
  cases e : g Γ S with
  | no => rw [e] at o; exact o
  | ex C fs S1 => rw [e] at o; exact o
  | ok ss S1 =>
    rw [e] at o
    intro vs H1 Hf1 μ1 s1 so1 r1
    obtain ⟨hl2, q1, _⟩ := o vs H1 Hf1 μ1 s1 so1 r1
    match vs, hl2 with
    | [v, w, u], _ => exact ⟨v, w, u, rfl, q1⟩
end
end DL
set_option Elab.async false
set_option linter.all false
set_option maxRecDepth 100000
/-! DLl: methods that tell; names of the module; words for the printed texts. -/
namespace DL
open PySem PySem.Spec PyProof.Rows L2

/-! ### x.count(y), x.index(y) -/
def MtB (K : PySem.W.Frag) (r : V → List V → Hp → VK → Prop) (op : Op2) : Prop := ∀ (S : Store) (H Hf : Hp) (μ : List Addr) (x y : V) (a b c : D) (Q : VK), StoOk K S H Hf μ → Bor K H Hf μ a x → Bor K H Hf μ b y → op S a b = some c →
  (∀ v H' Hf' μ', Step H Hf μ H' Hf' μ' → StoOk K S H' Hf' μ' → Rep K μ' Hf' c v → Q v H') → r x [y] H Q
def isLs (S : Store) (d : D) : Bool := (viewLs S d).isSome
def eMt (op : Op2) (f g : Ev D) : Ev D := fun Γ S => (f Γ S).bind fun a S1 => if isLs S1 a then (g Γ S1).bind fun b S2 => match op S2 a b with
  | some z => .ok z S2
  | none => .no
  else .no
section
variable {X : Cx} {W : WX} {o e : Expr} {fo fe : Ev D} {id : String} {name : PySem.Str} {apos cpos : Pos} {r : V → List V → Hp → VK → Prop} {op : Op2}
theorem tyv_s {K : PySem.W.Frag} {H : Hp} {a : Addr} {xs : List V} (q : SqL K H a xs) : tyV K "list" (.ref a) H := .inl ⟨rfl, xs, q⟩
theorem de_mt (slot : Slot "list" name id) (hty : typeOf (.builtin id) = pure (.type "method_descriptor")) (hm : MtR X id r) (hop : MtB X.K r op) (ho : DB X W o fo) (he : DB X W e fe)
    (hbase : attributeBase o name X.env (eval o X.env) = eval o X.env := by rfl)
    (hfew : ((backTo cpos (starEach [e] X.env)).all (fun x => !x.1) && (backToKw cpos (keywordEach [] X.env)).all (fun x => x.1.isSome)
      && decide (([e] : List Expr).length + ([] : List Keyword).length + (if ([] : List Keyword).isEmpty then 0 else 1) < 30)) = true := by rfl)
    (hline : (apos.endLine == cpos.line) = true := by rfl) (hs : starEach [e] X.env = (false, eval e X.env) :: starEach [] X.env := by rfl) :
    DE X W (.Call (.Attribute o name apos) [e] [] cpos) (eMt op fo fe) :=
  PE_imp (pe_bm PySem.F.plainAttrs_list slot hty hm ho (pa_cons he pa_nil hs) hbase hfew hline hs rfl) fun σ H Q ⟨Γ, S, Hf, μ, sl, so, o'⟩ => ⟨Γ, S, Hf, μ, sl, so, Out.bind sl rm_rep o' fun a S1 v H1 Hf1 μ1 _ s1 sl1 so1 r1 o1 => by
    split at o1
    next hl =>
      have bx := BorR.bor sl1 r1
      refine ⟨?_, Γ, S1, Hf1, μ1, sl1, so1, Out.bind sl1 rm_rep o1 fun b S2 u H2 Hf2 μ2 _ s2 sl2 so2 r2 o2 => ?_⟩
      · unfold isLs at hl
        cases e1 : viewLs S1 a with
        | none => rw [e1] at hl; cases hl
        | some ds =>
          obtain ⟨p, xs, rfl, hq, _⟩ := viewLs_ok so1 bx e1
          exact tyv_s hq
      · cases e2 : op S2 a b with
        | none => simp only [e2] at o2; exact o2.elim
        | some z =>
          simp only [e2] at o2
          exact hop S2 H2 Hf2 μ2 v u a b z Q so2 (BorR.bor sl2 (BorR.keep (H0' := H) s2 r1)) (BorR.bor sl2 r2) e2 o2
    · exact o1.elim⟩
def oCnt : Op2 := fun S a b => match b with
  | .int k => ((viewLs S a).bind intsOf).map fun ns => .int (ns.count k : Nat)
  | _ => none
theorem mb_cnt {K : PySem.W.Frag} : MtB K (rCntI K) oCnt := by
  intro S H Hf μ x y a b c Q so bx by_ e k
  unfold oCnt at e
  split at e
  next z =>
    obtain ⟨ds, ns, e1, e2, rfl⟩ := map_bind e
    obtain ⟨p, xs, rfl, hq, _, rl⟩ := viewLs_ok so bx e1
    have hx := ints_of rl e2
    subst hx
    exact ⟨p, ns, z, rfl, by rw [by_.int], hq, k _ H Hf μ (Step.refl _ _ _) so (by simp only [Rep])⟩
  · cases e
theorem de_cnt (ho : DB X W o fo) (he : DB X W e fe) (hbase : attributeBase o "count" X.env (eval o X.env) = eval o X.env := by rfl)
    (hfew : ((backTo cpos (starEach [e] X.env)).all (fun x => !x.1) && (backToKw cpos (keywordEach [] X.env)).all (fun x => x.1.isSome)
      && decide (([e] : List Expr).length + ([] : List Keyword).length + (if ([] : List Keyword).isEmpty then 0 else 1) < 30)) = true := by rfl)
    (hline : (apos.endLine == cpos.line) = true := by rfl) (hs : starEach [e] X.env = (false, eval e X.env) :: starEach [] X.env := by rfl) :
    DE X W (.Call (.Attribute o "count" apos) [e] [] cpos) (eMt oCnt fo fe) := de_mt PySem.F.slot_list_count PySem.F.type_list_count mt_lcount mb_cnt ho he hbase hfew hline hs
/-- the first place of an equal item -/
def firstEq (d : PyData) : List PyData → Nat → Option Nat
  | [], _ => none
  | z :: r, j => if PyData.eqv z d then some j else firstEq d r (j + 1)
theorem firstEq_ok {d : PyData} : ∀ {l : List PyData} {j n : Nat}, firstEq d l j = some n → ∃ i z, n = j + i ∧ l[i]? = some z ∧ PyData.eqv z d = true ∧ ∀ (m : Nat) (z' : PyData), m < i → l[m]? = some z' → PyData.eqv z' d = false
  | [], _, _, h => by cases h
  | z :: r, j, n, h => by
    unfold firstEq at h
    split at h
    next q => cases h; exact ⟨0, z, rfl, rfl, q, fun m _ hm => absurd hm (by omega)⟩
    next q =>
      obtain ⟨i, z2, h1, h2, h3, h4⟩ := firstEq_ok h
      refine ⟨i + 1, z2, by omega, by simpa using h2, h3, fun m z' hm hz => ?_⟩
      cases m with
      | zero => simp at hz; subst hz; simpa using q
      | succ m => exact h4 m z' (by omega) (by simpa using hz)
def oIdx : Op2 := fun S a b => match pyS S a, pyS S b with
  | some (.list qs), some p => if SeqAt.shaped p && SeqAt.shaped (.list qs) then (firstEq p qs 0).map fun n => .int (n : Nat) else none
  | _, _ => none
theorem mb_idx {K : PySem.W.Frag} : MtB K (rIndexD K) oIdx := by
  intro S H Hf μ x y a b c Q so bx by_ e k
  unfold oIdx at e
  split at e
  next qs p e1 e2 =>
    split at e
    next h =>
      rw [Bool.and_eq_true] at h
      cases e3 : firstEq p qs 0 with
      | none => rw [e3] at e; cases e
      | some n =>
        rw [e3] at e
        cases e
        obtain ⟨i, z, h1, h2, h3, h4⟩ := firstEq_ok e3
        obtain rfl : n = i := by omega
        have dx := bor_dp so bx e1
        cases dx with
        | lst hs ha => exact ⟨_, y, p, qs, n, z, rfl, rfl, .lst hs ha, bor_dp so by_ e2, h.2, h.1, h2, h3, h4, k _ H Hf μ (Step.refl _ _ _) so (by simp only [Rep])⟩
    · cases e
  · cases e
theorem de_idx (hu : X.A.units + 65 < cLine) (ho : DB X W o fo) (he : DB X W e fe) (hbase : attributeBase o "index" X.env (eval o X.env) = eval o X.env := by rfl)
    (hfew : ((backTo cpos (starEach [e] X.env)).all (fun x => !x.1) && (backToKw cpos (keywordEach [] X.env)).all (fun x => x.1.isSome)
      && decide (([e] : List Expr).length + ([] : List Keyword).length + (if ([] : List Keyword).isEmpty then 0 else 1) < 30)) = true := by rfl)
    (hline : (apos.endLine == cpos.line) = true := by rfl) (hs : starEach [e] X.env = (false, eval e X.env) :: starEach [] X.env := by rfl) :
    DE X W (.Call (.Attribute o "index" apos) [e] [] cpos) (eMt oIdx fo fe) := de_mt PySem.F.slot_list_index PySem.F.type_list_index (mt_indexD hu) mb_idx ho he hbase hfew hline hs
end

/-! ### the built-ins by name -/
theorem bo_len : bootBuiltins "len" = some (.builtin "len") := by kernel_rfl
theorem bo_abs : bootBuiltins "abs" = some (.builtin "abs") := by kernel_rfl
theorem bo_max : bootBuiltins "max" = some (.builtin "max") := by kernel_rfl
theorem bo_min : bootBuiltins "min" = some (.builtin "min") := by kernel_rfl
theorem bo_sum : bootBuiltins "sum" = some (.builtin "sum") := by kernel_rfl
theorem bo_all : bootBuiltins "all" = some (.builtin "all") := by kernel_rfl
theorem bo_any : bootBuiltins "any" = some (.builtin "any") := by kernel_rfl
theorem bo_divmod : bootBuiltins "divmod" = some (.builtin "divmod") := by kernel_rfl
theorem bo_repr : bootBuiltins "repr" = some (.builtin "repr") := by kernel_rfl
theorem bo_sorted : bootBuiltins "sorted" = some (.builtin "sorted") := by kernel_rfl
theorem bo_isinstance : bootBuiltins "isinstance" = some (.builtin "isinstance") := by kernel_rfl
theorem bo_int : bootBuiltins "int" = some (.type "int") := by kernel_rfl
theorem bo_bool : bootBuiltins "bool" = some (.type "bool") := by kernel_rfl
theorem bo_str : bootBuiltins "str" = some (.type "str") := by kernel_rfl
theorem bo_tuple : bootBuiltins "tuple" = some (.type "tuple") := by kernel_rfl
theorem bo_list : bootBuiltins "list" = some (.type "list") := by kernel_rfl
theorem bo_dict : bootBuiltins "dict" = some (.type "dict") := by kernel_rfl
theorem bo_set : bootBuiltins "set" = some (.type "set") := by kernel_rfl

/-! ### what is known of the module -/
structure Cn (fa : List He.Fa) (fn : List He.DefD) (ex : PySem.W.Frag → Bool) (K : PySem.W.Frag) (mg : PySem.Str → Option Value) (base : Heap) : Prop where
  says : He.SaysD fa fn K
  kin : K.In base
  ns : base.Ns mainGlobals mg
  more : ex K = true
section
variable {fa : List He.Fa} {fn : List He.DefD} {ex : PySem.W.Frag → Bool} {K : PySem.W.Frag} {mg : PySem.Str → Option Value} {base : Heap}
theorem Cn.glo (c : Cn fa fn ex K mg base) (i : Nat) {x : PySem.Str} (h : fa[i]? = some (.glo x)) : mg x = some (.ref (He.ga K x)) := He.glo_ok c.kin c.ns (c.says.fact i h)
theorem Cn.free (c : Cn fa fn ex K mg base) (i : Nat) {x : PySem.Str} (h : fa[i]? = some (.free x)) : mg x = none := He.free_ok c.kin c.ns (c.says.fact i h)
theorem Cn.int (c : Cn fa fn ex K mg base) (i : Nat) {x : PySem.Str} {n : Int} (h : fa[i]? = some (.int x n)) : ∃ t, mg x = some (.int n t) := He.int_ok c.kin c.ns (c.says.fact i h)
theorem Cn.str (c : Cn fa fn ex K mg base) (i : Nat) {x z : PySem.Str} (h : fa[i]? = some (.str x z)) : ∃ t, mg x = some (.str z t) := He.str_ok c.kin c.ns (c.says.fact i h)
end
section
variable {X : Cx} {W : WX} {x : PySem.Str} {pos : Pos}
theorem de_gi {n : Int} (hm : ∃ t, X.mg x = some (.int n t)) (hg : Gl X x) (hd : (x == ("__debug__" : PySem.Str)) = false := by decide) : DE X W (.Name x pos) (eC (.int n)) := by
  obtain ⟨t, e⟩ := hm
  exact de_glob hg e (v := .int n) ⟨t, rfl⟩ (fun _ _ => by simp only [Rep]) hd
theorem de_gs {z : PySem.Str} (hm : ∃ t, X.mg x = some (.str z t)) (hg : Gl X x) (hd : (x == ("__debug__" : PySem.Str)) = false := by decide) : DE X W (.Name x pos) (eC (.str z)) := by
  obtain ⟨t, e⟩ := hm
  exact de_glob hg e (v := .str z) ⟨t, rfl⟩ (fun _ _ => by simp only [Rep]) hd
end
end DL
namespace DL
open PySem L2
theorem u1_of {k : Nat} {A : Around} (r : Room k A) : A.units + 1 < cLine := by have := r.un; omega
theorem u65_of {k : Nat} {A : Around} (r : Room k A) : A.units + 65 < cLine := by have := r.un; omega
end DL
namespace DL
open PySem L2
def kindEq (a b : Option NameKind) : Bool := decide (a = b)
def blkB (N : List PySem.Str) (sc scope : Scope) (own : List (PySem.Str × Nat)) : Bool :=
  decide (scope.kind = .function) && (scope.names.all fun y => kindEq (scope.names.lookup y.1) (some y.2)) && (own.all fun p => decide (N[p.2]? = some p.1)) &&
  (scope.names.all fun y => !kindEq (some y.2) (some .free) || (kindEq (sc.names.lookup y.1) (some .cell) || kindEq (sc.names.lookup y.1) (some .free))) &&
  (scope.names.all fun y => !(kindEq (some y.2) (some .local) || kindEq (some y.2) (some .cell)) || ((own.map (·.1)).contains y.1 || !N.contains y.1))
theorem blk_of {N : List PySem.Str} {sc scope : Scope} {own : List (PySem.Str × Nat)} (h : blkB N sc scope own = true) : BlkOk N sc scope own := by
  unfold blkB kindEq at h
  simp only [Bool.and_eq_true, decide_eq_true_eq, List.all_eq_true] at h
  obtain ⟨⟨⟨⟨h1, h2⟩, h3⟩, h4⟩, h5⟩ := h
  refine ⟨h1, fun y hy => h2 y hy, fun p hp => h3 p hp, fun y hy e => ?_, fun y hy e => ?_⟩
  · have := h4 y hy
    simp [e] at this
    exact this
  · have := h5 y hy
    rcases e with e | e <;> simpa [e] using this
end DL
namespace DL
open PySem L2
theorem dt_w {X : Cx} {W : WX} {e : Expr} {f : Ev Bool} (h : DW X W e f) : DT X W e f := h.pt
end DL
set_option Elab.async false
set_option linter.all false
set_option maxRecDepth 100000
set_option maxHeartbeats 4000000
/-! DLm: an own exception over ArithmeticError whose __init__ keeps two fields; raise. -/
namespace DL
open PySem PySem.Spec PyProof.Rows L2

abbrev aeTail : List Value := [.type "ArithmeticError", .type "Exception", .type "BaseException", .type "object"]
/-- what the written part says of the class -/
structure OexA (K : PySem.W.Frag) (C : Addr) : Prop where
  at_ : ∃ nm q N bs bm sn sub ab col dd k0 k1 k2 k3 k5, K.lookup C = some (excClassObj nm q C N bs bm true sn sub ab col dd k0 k1 k2 k3 k5 "ArithmeticError.__new__") ∧ PySem.W.excTail aeTail bm = true
  st : PySem.W.findIn K (.ref C) "__setattr__" = some (some (.builtin "object.__setattr__"))
  sub : PySem.W.subIn K (.ref C) (.type "BaseException") = some true
  ty : PySem.W.typeIn K (.ref C) = some (.type "type")
  kp : PySem.W.keepIn K (.ref C) = true
def oexAB (K : PySem.W.Frag) (C : Addr) : Bool := (match K.lookup C with
  | some ⟨.type "type", _, .cls cd, sl⟩ => (match cd.mro, sl.toList with
    | .ref C' :: bm, [_, _, _, _, some (.builtin n), _] => decide (C' = C) && (decide (n = "ArithmeticError.__new__") && (!cd.hasDel && (cd.hasDict && PySem.W.excTail aeTail bm)))
    | _, _ => false)
  | _ => false) && (decide (PySem.W.findIn K (.ref C) "__setattr__" = some (some (.builtin "object.__setattr__"))) && (decide (PySem.W.subIn K (.ref C) (.type "BaseException") = some true) && (decide (PySem.W.typeIn K (.ref C) = some (.type "type")) && PySem.W.keepIn K (.ref C))))
theorem oexA_of {K : PySem.W.Frag} {C : Addr} (h : oexAB K C = true) : OexA K C := by
  unfold oexAB at h
  simp only [Bool.and_eq_true, decide_eq_true_eq] at h
  obtain ⟨h0, h1, h2, h3, h4⟩ := h
  refine ⟨?_, h1, h2, h3, h4⟩
  split at h0
  next dd cd sl hl =>
    split at h0
    next C' bm k0 k1 k2 k3 n k5 hm hs =>
      simp only [Bool.and_eq_true, decide_eq_true_eq, Bool.not_eq_true'] at h0
      obtain ⟨rfl, rfl, e1, e2, e3⟩ := h0
      obtain ⟨nm, bs, mro, ns, qn, hd, sn, sb, ab, col, del⟩ := cd
      dsimp only at hm e1 e2
      subst hm e1 e2
      obtain ⟨l⟩ := sl
      dsimp only at hs
      subst hs
      exact ⟨nm, qn, ns, bs, bm, sn, sb, ab, col, dd, k0, k1, k2, k3, k5, hl, e3⟩
    · cases h0
  · cases h0
theorem OexA.over {K : PySem.W.Frag} {C : Addr} (T : OexA K C) : PySem.W.excOver K C aeTail = true := by
  obtain ⟨nm, q, N, bs, bm, sn, sub, ab, col, dd, k0, k1, k2, k3, k5, hC, hbm⟩ := T.at_
  unfold PySem.W.excOver PySem.W.clsIn
  rw [hC]
  show (decide (C = C) && PySem.W.excTail aeTail bm) = true
  rw [hbm]
  simp
section
open Builtin Builtin.ObjectAttr PySem.W PySem.Calls PySem.HandSPX PySem.OEX
variable {prog : Program} {w : World} {A : Around} {hp : Heap} {g : Array GenState} {d : Drawn} {t : Nat} {os : OsState} {R : Result → Shared → Prop}
theorem clsA {K : PySem.W.Frag} {C : Addr} (T : OexA K C) : ∃ cd, PySem.W.clsIn K C = some cd ∧ cd.hasDict = true := by
  obtain ⟨nm, q, N, bs, bm, sn, sub, ab, col, dd, k0, k1, k2, k3, k5, hC, hbm⟩ := T.at_
  exact ⟨{ name := nm, bases := bs, mro := .ref C :: bm, ns := N, qualname := q, hasDict := true, slotNames := sn, subclasses := sub, abstract := ab, collection := col, hasDel := false }, by unfold PySem.W.clsIn; rw [hC] <;> rfl, rfl⟩
theorem takA {K : PySem.W.Frag} {C : Addr} {f : PySem.Str} (h : PySem.W.findIn K (.ref C) f = some none) : PySem.W.takerIn K C f = some none := by
  unfold PySem.W.takerIn
  rw [h]
  rfl
/-- the first field -/
theorem osaA_new {K : PySem.W.Frag} {f : PySem.Str} {tk : Tok} {v : Value} {x C : Addr} {fv : Array Value} (T : OexA K C) (X : K.In hp) (hx : hp.get? x = some { cls := .ref C, data := .fields fv }) (ha : PySem.W.findIn K (.ref C) f = some none)
    (hq : ∀ h' tk' dx, (∀ b o, b ≠ x → hp.get? b = some o → h'.get? b = some o) → hp.objs.size ≤ dx → dx ≠ x → h'.get? x = some { cls := .ref C, dict := some dx, data := .fields fv } →
      h'.Ns1 dx (fun y => if y = f then some v else none) → R (.ok (.ret .none)) ⟨h', g, d, tk', os⟩) :
    codeAny (model prog w) A (.call (.builtin "object.__setattr__") ⟨[.ref x, .str f tk, v], []⟩) R ⟨hp, g, d, t, os⟩ := by
  have I : PySem.W.InstAt hp x { cls := .ref C, data := .fields fv } C none := ⟨hx, rfl, rfl, trivial⟩
  obtain ⟨cd, hcd, hh⟩ := clsA T
  have hxs : x ≠ hp.objs.size := Nat.ne_of_lt (Heap.lt_size hx)
  have hcls : PySem.W.Looks (model prog w) hp (classData C) cd := PySem.W.looks_clsIn X hcd
  refine PySem.W.osa_openX PySem.F.store_ArithmeticError X I T.over (takA ha) fun b => ?_
  obtain ⟨nm, bs, mro, ns, qn, hd, sn, sb, ab, col, del⟩ := cd
  dsimp only at hh; subst hh
  dsimp only
  unfold storeInOwnDict ownDictForStores
  repeat (first | with_reducible refine PySem.HandSPX.store_in_new ?_ ?_ | with_reducible refine wpAny_loadPart_at hx ?_ | with_reducible refine hcls.at ?_ | wp_step)
  · exact ⟨_, #[], _, (Heap.get?_update_ne _ _ _ _ hxs.symm).trans (Heap.get?_push_at rfl rfl), rfl, fun e he => absurd he (by simp), fun _ => rfl⟩
  · intro h' tk' hn' hs
    have hx1 : (hp.push { cls := .type "dict", data := .dict #[] }).get? x = some { cls := .ref C, data := .fields fv } := Heap.get?_push_of_some _ hx
    exact hq h' tk' hp.objs.size (fun b o hb ho => (hs.2 b (Nat.ne_of_lt (Heap.lt_size ho))).trans ((Heap.get?_update_ne _ _ _ _ hb).trans (Heap.get?_push_of_some _ ho))) (Nat.le_refl _) hxs.symm ((hs.2 x hxs).trans (Heap.get?_update_self _ hx1 rfl)) hn'
/-- a further field -/
theorem osaA_old {K : PySem.W.Frag} {f : PySem.Str} {tk : Tok} {v : Value} {x C dx : Addr} {fv : Array Value} {m0 : PySem.Str → Option Value} {nl : List PySem.Str} (T : OexA K C) (X : K.In hp) (hx : hp.get? x = some { cls := .ref C, dict := some dx, data := .fields fv })
    (hns : hp.Ns1 dx m0) (hw : Within m0 nl) (hz : nl.length ≤ 1000) (ha : PySem.W.findIn K (.ref C) f = some none)
    (hq : ∀ h' tk', (∀ b o, b ≠ dx → hp.get? b = some o → h'.get? b = some o) → h'.Ns1 dx (fun y => if y = f then some v else m0 y) → R (.ok (.ret .none)) ⟨h', g, d, tk', os⟩) :
    codeAny (model prog w) A (.call (.builtin "object.__setattr__") ⟨[.ref x, .str f tk, v], []⟩) R ⟨hp, g, d, t, os⟩ := by
  obtain ⟨oD, esD, epD, hoD, hdD, _⟩ := hns.count hw
  have I : PySem.W.InstAt hp x { cls := .ref C, dict := some dx, data := .fields fv } C (some oD) := ⟨hx, rfl, rfl, hoD⟩
  obtain ⟨cd, hcd, hh⟩ := clsA T
  have hcls : PySem.W.Looks (model prog w) hp (classData C) cd := PySem.W.looks_clsIn X hcd
  refine PySem.W.osa_openX PySem.F.store_ArithmeticError X I T.over (takA ha) fun b => ?_
  obtain ⟨nm, bs, mro, ns, qn, hd, sn, sb, ab, col, del⟩ := cd
  dsimp only at hh; subst hh
  dsimp only
  unfold storeInOwnDict ownDictForStores
  repeat (first | with_reducible refine PySem.OEX.store_in_old hns hw hz ?_ | with_reducible refine wpAny_loadPart_at hx ?_ | with_reducible refine hcls.at ?_ | wp_step)
  intro h' tk' hn' hs
  exact hq h' tk' (fun b o hb ho => (hs.2 b hb).trans ho) hn'
end

section
variable {X : Cx} {pins : List (Addr × Obj)} {σ : L2.St} {H : Hp} {s : Shared} {a C dx : Addr} {f : PySem.Str} {y : V} {u : Value} {fs : List (PySem.Str × V)} {Q : Unit → Shared → Prop} {E : Value → Shared → Prop} {A : Around}
theorem ostA_new (T : OexA X.K C) (I : Inv X pins σ H s) (ea : H a = some (exo a C none)) (hno : PySem.W.findIn X.K (.ref C) f = some none) (ry : RelV y u)
    (hk : ∀ dx s', H dx = none → dx ≠ a → Inv X pins σ (upd (upd H dx (exd dx [(f, y)])) a (exo a C (some dx))) s' → Q () s') : wpAny (model X.prog X.w) A (setAttr (.ref a) f u) Q E s := by
  obtain ⟨t1, oa⟩ := exo_at I.hok ea
  obtain ⟨hp, g, d, t, os⟩ := s
  refine PySem.W.set_plain I.kIn (ox := { cls := .ref C, dict := none, data := .fields #[.ref t1, .none, .none, .none, .bool false, .none] }) (od := none) ⟨oa, rfl, rfl, trivial⟩ T.st ?_
  refine osaA_new T I.kIn oa hno fun h2 tk2 dx kp dn dne hx hn => ?_
  have fresh : H dx = none := I.hok.fresh dn
  have old_dx : ∀ {b : Addr} {o : Obj}, hp.get? b = some o → b ≠ dx := fun z => Nat.ne_of_lt (Nat.lt_of_lt_of_le (Heap.lt_size z) dn)
  have not_a : ∀ {b : Addr}, H b = none → b ≠ a := fun {b} n z => by rw [z, ea] at n; cases n
  have un : Un X.fs [] H (upd (upd H dx (exd dx [(f, y)])) a (exo a C (some dx))) hp h2 := by
    constructor
    · exact fun b o z n _ _ => kp b o (not_a n) z
    · exact fun b o z n _ _ => ⟨o.slots, kp b o (not_a n) z⟩
    · exact fun b o z n _ => by rw [upd_ne (not_a n), upd_ne (old_dx z)]; exact n
    · intro b o z _
      by_cases e : b = a
      · exact ⟨_, by rw [e]; exact hx⟩
      · exact ⟨o, kp b o e z⟩
    · exact fun b xs z => by rw [upd_ne (at_ne ea z exo_tup), upd_ne (ne_of_none z fresh)]; exact z
    · exact fun b o v z => by rw [upd_ne (at_ne ea z exo_frz), upd_ne (ne_of_none z fresh)]; exact z
    · exact fun b ps z => ⟨#[], by rw [upd_ne (at_ne ea z exo_tbl), upd_ne (ne_of_none z fresh), z]; simp⟩
  refine hk dx _ fresh dne (I.un (t' := tk2) un fun b o z => ?_)
  by_cases e1 : b = a
  · subst e1; rw [upd_same] at z; cases z; exact exo_ok hx
  · rw [upd_ne e1] at z
    by_cases e2 : b = dx
    · subst e2; rw [upd_same] at z; cases z
      exact exd_ok hn (relO_put (fs := []) ry fun _ => True.intro)
    · rw [upd_ne e2] at z
      refine (I.hok b o z).stay (fun c v hc q => kp c v ?_ q) (fun c hc => ?_) (fun c xs hc => ?_)
      · rcases hc with hc | hc
        · rw [hc]; exact e1
        · exact at_ne ea hc exo_own
      · rw [upd_ne (at_ne ea hc exo_own), upd_ne (ne_of_none hc fresh)]; exact hc
      · rw [upd_ne (at_ne ea hc exo_tup), upd_ne (ne_of_none hc fresh)]; exact hc
theorem ostA_old (T : OexA X.K C) (I : Inv X pins σ H s) (ea : H a = some (exo a C (some dx))) (ed : H dx = some (exd dx fs)) (hl : fs.length ≤ 900) (hno : PySem.W.findIn X.K (.ref C) f = some none) (ry : RelV y u)
    (hk : ∀ s', Inv X pins σ (upd H dx (exd dx ((f, y) :: fs))) s' → Q () s') : wpAny (model X.prog X.w) A (setAttr (.ref a) f u) Q E s := by
  obtain ⟨t1, oa⟩ := exo_at I.hok ea
  obtain ⟨mA, ns, rl⟩ := exd_at I.hok ed
  have wi := within_of rl
  obtain ⟨hp, g, d, t, os⟩ := s
  obtain ⟨oD, _, _, hoD, _, _⟩ := ns.count wi
  refine PySem.W.set_plain I.kIn (ox := { cls := .ref C, dict := some dx, data := .fields #[.ref t1, .none, .none, .none, .bool false, .none] }) (od := some oD) ⟨oa, rfl, rfl, hoD⟩ T.st ?_
  refine osaA_old T I.kIn oa ns wi (by rw [List.length_map]; omega) hno fun h2 tk2 kp hn => ?_
  obtain ⟨o2, es2, ep2, e2, r2⟩ := hn
  exact hk _ (I.write (t' := tk2) (x := dx) (e := dx) (o := exd dx ((f, y) :: fs)) (by rw [ed]; exact True.intro) (.inl rfl) kp ⟨o2, e2⟩ (exd_ok ⟨o2, es2, ep2, e2, r2⟩ (relO_put ry rl)))
end
/-- self.f = e -/
def tOstA (K : PySem.W.Frag) (f : PySem.Str) (to te : TE) : TS := fun D σ H => te σ H fun y H1 => to σ H1 fun x H2 => ∃ a C : Addr, x = .ref a ∧ OexA K C ∧ PySem.W.findIn K (.ref C) f = some none ∧
  ((H2 a = some (exo a C none) ∧ ∀ dx, H2 dx = none → dx ≠ a → D.nx σ (upd (upd H2 dx (exd dx [(f, y)])) a (exo a C (some dx)))) ∨
    ∃ (dx : Addr) (fs : List (PySem.Str × V)), H2 a = some (exo a C (some dx)) ∧ H2 dx = some (exd dx fs) ∧ fs.length ≤ 900 ∧ D.nx σ (upd H2 dx (exd dx ((f, y) :: fs))))
section
variable {X : Cx} {o e : Expr} {es : List Expr} {to te : TE} {ta : TA} {f : PySem.Str} {p p' pos : Pos}
theorem ps_ostA (ho : PE X o to) (he : PE X e te) (hs : swapsWith e (some (.Attribute o f p')) pos.line X.env = pure false := by rfl) : PS X (.Assign [.Attribute o f p'] e pos) (tOstA X.K f to te) := by
  refine ⟨fun pins s σ H D I h => plainObj_wpAny_Assign_Attribute (thn (he.run pins s σ H _ I h) fun v s1 ⟨y, H1, I1, r1, q1⟩ => thn (ho.run pins s1 σ H1 _ I1 q1) fun u s2 hh => ?_) hs⟩
  obtain ⟨x, H2, I2, r2, a, C, ex, T, hno, q⟩ := hh
  subst ex
  cases (show u = Value.ref a from r2)
  rcases q with ⟨ea, q⟩ | ⟨dx, fs, ea, ed, hl, q⟩
  · exact ostA_new T I2 ea hno r1 fun dx s' n ne J => ⟨σ, _, J, q dx n ne⟩
  · exact ostA_old T I2 ea ed hl hno r1 fun s' J => ⟨σ, _, J, q⟩
theorem pmk_oexA {CX : CXT} {x : PySem.Str} {C fI : Addr} {k : Nat} {fd : FuncData} {ps : List PySem.Str} {sp : Sp} {ds : List Value} {dvs : List V} (T : OexA X.K C) (iC : PySem.W.findIn X.K (.ref C) "__init__" = some (some (.ref fI))) (tI : PySem.W.typeIn X.K (.ref fI) = some (.type "function"))
    (F1 : FnOk X.prog X.w X.K X.mg X.base CX k fI fd ps sp) (hr : Room (k + 1) X.A) (hb : Binds X.K fd ps ds) (hd : Vals dvs ds) (hx : Passes CX X (fun _ _ _ => False)) (hg : Gl X x) (hm : X.mg x = some (.ref C)) (ha : PA X (e :: es) ta)
    (hdb : (x == ("__debug__" : PySem.Str)) = false := by decide) (he : starEach (e :: es) X.env = (false, eval e X.env) :: starEach es X.env := by rfl) (hpl : (backTo pos (starEach es X.env)).any (·.1) = false := by rfl) :
    PMk X (.Call (.Name x p) (e :: es) [] pos) (tMkO C sp dvs ta) := by
  intro pins s σ H Q I h
  obtain ⟨nm, q, N, bs, bm, sn, sub, ab, col, dd, k0, k1, k2, k3, k5, hC, hbm⟩ := T.at_
  refine wpAny_Call_Name_kw (ld_glob I hg hm (PySem.W.callWith_K (h₀ := X.base) I.ok.mod.kin T.kp (thn (ha.run pos pins s σ H _ I h) fun us s1 hh => ?_) he hpl) hdb)
  obtain ⟨vs, H1, I1, r1, hz, q1⟩ := hh
  refine ⟨I1.kIn, ?_⟩
  show wpAny _ _ (call (.ref C) us) _ _ _
  obtain ⟨hp, g, dr, tk, os⟩ := s1
  have le1 : hp.objs.size ≤ hp.objs.size + 1 := Nat.le_succ _
  have hq := q1 (hp.objs.size + 1) (I1.hok.fresh le1)
  have keep : ∀ b o, hp.get? b = some o → ((hp.push (PySem.W.kdv_tup us)).push (PySem.HandSPX.excO C hp.objs.size)).get? b = some o := fun b o z => Heap.get?_push_of_some _ (Heap.get?_push_of_some _ z)
  have here : ((hp.push (PySem.W.kdv_tup us)).push (PySem.HandSPX.excO C hp.objs.size)).get? (hp.objs.size + 1) = some (PySem.HandSPX.excO C hp.objs.size) := by heap_get
  have J : Inv X pins σ (upd H1 (hp.objs.size + 1) (exo (hp.objs.size + 1) C none)) ⟨(hp.push (PySem.W.kdv_tup us)).push (PySem.HandSPX.excO C hp.objs.size), g, dr, tk, os⟩ :=
    Inv.laid (h' := (hp.push (PySem.W.kdv_tup us)).push (PySem.HandSPX.excO C hp.objs.size)) (a := hp.objs.size + 1) (o := exo (hp.objs.size + 1) C none) (t' := tk) I1 keep le1 (exo_ok here)
  have rr : Vals (V.ref (hp.objs.size + 1) :: (vs ++ dvs)) (Value.ref (hp.objs.size + 1) :: (us ++ ds)) := .cons rfl (r1.append hd)
  have len1 : (Value.ref (hp.objs.size + 1) :: us ++ ds).length = ps.length := by
    have z := rr.length
    rw [F1.len _ _ _ _ hq] at z
    exact z.symm
  have len2 : us.length ≤ sizeLine := by rw [← Paired.length r1, sizeLine_eq]; omega
  refine wpAny_call (PySem.HandSPX.call_own PySem.F.excBase_ArithmeticError (fun Y => PySem.W.excTail_contains Y bm hbm) (I1.kIn _ _ hC) (PySem.W.looks_findIn I1.kIn iC) (fun self => PySem.W.bind_fn I1.kIn self tI) len2 (codeAny_mono (F1.run _ X.stack _ _ ⟨Value.ref (hp.objs.size + 1) :: us, []⟩ (Value.ref (hp.objs.size + 1) :: (us ++ ds)) _ _ (fun _ _ _ => False) (hr.make C us []) (J.env0.make C us []) (hb _ (Value.ref (hp.objs.size + 1) :: us) J.kIn len1) rr hq) fun r s' hq' => ?_))
  match r, hq' with
  | .error er, hq' => exact hx pins σ _ _ er s' J hq'
  | .ok (.ret u), hq' =>
      obtain ⟨v, H2, os2, bare2, un2, hok2, rv, ev, d, fs, ea, ed, hd1, q2⟩ := hq'
      subst ev
      obtain ⟨h2, g2, d2, t2, os'⟩ := s'
      exact ⟨rv, mk_end (raises_own T.sub T.ty) I1 le1 keep un2 hok2 os2 bare2 ea ed hd1 q2⟩
  | .ok .next, hq' => exact False.elim hq'
  | .ok .brk, hq' => exact False.elim hq'
  | .ok .cont, hq' => exact False.elim hq'
end
end DL
set_option Elab.async false
set_option linter.all false
set_option maxRecDepth 100000
set_option maxHeartbeats 4000000
/-! DLn: raise of a two-field error; try .. except .. as. -/
namespace DL
open PySem PySem.Spec PyProof.Rows L2

/-! ### __init__(self, f1, f2) -/
def spI2 (C : Addr) (f1 f2 : PySem.Str) : Sp := fun vs H Q _ => ∃ a v w, vs = [V.ref a, v, w] ∧ H a = some (exo a C none) ∧ ∀ d, H d = none → d ≠ a → Q .non (upd (upd (upd H d (exd d [(f1, v)])) a (exo a C (some d))) d (exd d [(f2, w), (f1, v)]))
theorem pure_i2 {K : PySem.W.Frag} {C : Addr} {f1 f2 x0 x1 x2 : PySem.Str} (T : OexA K C) (h1 : PySem.W.findIn K (.ref C) f1 = some none) (h2 : PySem.W.findIn K (.ref C) f2 = some none) (vs : List V) (H : Hp) (Q : VK) (E : XK) (h : spI2 C f1 f2 vs H Q E) :
    tSeq (tOstA K f1 (tVar 0) (tVar 1)) (tOstA K f2 (tVar 0) (tVar 2)) { nx := fun _ H' => Q .non H', rt := Q } (L2.start [x0, x1, x2] vs) H := by
  obtain ⟨a, v, w, rfl, ha, k⟩ := h
  refine ⟨v, rfl, .ref a, rfl, a, C, rfl, T, h1, .inl ⟨ha, fun dx hn ne => ?_⟩⟩
  refine ⟨w, rfl, .ref a, rfl, a, C, rfl, T, h2, .inr ⟨dx, [(f1, v)], upd_same, ?_, by show 1 ≤ 900; decide, k dx hn ne⟩⟩
  rw [upd_ne ne, upd_same]

/-! ### raise -/
theorem hp_exc {H : Hp} {a d : Addr} {x y z w v : HO} (ha : H a = none) (ne : d ≠ a) : upd (L2.del (upd (upd (upd (upd H a x) d y) a z) d w) a) d v = upd H d v := by
  funext b
  by_cases h1 : b = d
  · rw [h1, upd_same, upd_same]
  · rw [upd_ne h1, upd_ne h1]
    by_cases h2 : b = a
    · rw [h2, del_same, ha]
    · rw [del_ne h2, upd_ne h1, upd_ne h2, upd_ne h1, upd_ne h2]
def sRaise2 (C f1 f2 : PySem.Str) (g : Ev (List D)) : Es := fun Γ S => bindS Γ (g Γ S) fun ds S1 => match ds with
  | [a, b] => .ex C [(f2, b), (f1, a)] Γ S1
  | _ => .no
section
variable {X : Cx} {B : Base} {W : WX} {e : Expr} {es : List Expr} {g : Ev (List D)} {x f1 f2 : PySem.Str} {p cpos pos : Pos}
theorem ds_raise2 {fI : Addr} {k : Nat} {fd : FuncData} {ps : List PySem.Str} (hc : X.calm = true) (tk : Takes X W) (T : OexA X.K (He.ga X.K x)) (iC : PySem.W.findIn X.K (.ref (He.ga X.K x)) "__init__" = some (some (.ref fI))) (tI : PySem.W.typeIn X.K (.ref fI) = some (.type "function"))
    (F1 : FnOk X.prog X.w X.K X.mg X.base (fun _ _ _ _ _ _ => False) k fI fd ps (spI2 (He.ga X.K x) f1 f2)) (hr : Room (k + 1) X.A) (hb : Binds X.K fd ps []) (hg : Gl X x) (hm : X.mg x = some (.ref (He.ga X.K x))) (ha : DA X W (e :: es) g)
    (hdb : (x == ("__debug__" : PySem.Str)) = false := by decide) (he : starEach (e :: es) X.env = (false, eval e X.env) :: starEach es X.env := by rfl) (hpl : (backTo cpos (starEach es X.env)).any (·.1) = false := by rfl) :
    DS X B W (.Raise (some (.Call (.Name x p) (e :: es) [] cpos)) none pos) (sRaise2 x f1 f2 g) := by
  intro fl ml
  refine PS_imp (ps_raise hc tk (pmk_oexA (dvs := []) (sp := spI2 (He.ga X.K x) f1 f2) T iC tI F1 hr hb .nil (fun _ _ _ _ _ _ _ h => h.elim) hg hm ha hdb he hpl)) fun E σ H ⟨Γ, S, Hf, μ, rl, o⟩ => ?_
  refine ⟨Γ, S, Hf, μ, rl.sl, rl.so, SOut.bind rl o fun ds S1 vs H1 Hf1 μ1 _ s1 r1 re o1 => ?_⟩
  match ds, re, o1 with
  | [d1, d2], re, o1 =>
    obtain ⟨v, w, rfl, q1, q2⟩ := RepL.two re
    refine ⟨by show 2 ≤ 1000; decide, fun a hn => ⟨a, v, w, rfl, upd_same, fun d hd ne => ⟨rfl, d, _, ?_, upd_same, ?_, ?_⟩⟩⟩
    · rw [upd_ne ne.symm, upd_same]
    · rw [upd_ne ne] at hd; exact hd
    · rw [upd_ne ne] at hd
      rw [hp_exc hn ne]
      obtain ⟨st, so2⟩ := Step.lay (u := .xd [(f2, w), (f1, v)]) r1.so hd
      refine o1 d [(f2, w), (f1, v)] σ _ _ μ1 (r1.step st so2) upd_same ?_
      exact ⟨w, _, rfl, st.rep q2, v, _, rfl, st.rep q1, rfl⟩
end

/-! ### what the suite reads of the error -/
theorem frep_get {K : PySem.W.Frag} {μ : List Addr} {Hf : Hp} {f : PySem.Str} {d : D} : ∀ {fs : List (PySem.Str × D)} {fv : List (PySem.Str × V)}, FRep K μ Hf fs fv → fs.lookup f = some d → ∃ v, fv.lookup f = some v ∧ Rep K μ Hf d v
  | [], _, _, h => by cases h
  | (g, c) :: fs, fv, r, h => by
    obtain ⟨x, t, rfl, q, r⟩ := r
    rw [List.lookup_cons] at h ⊢
    cases e : (f == g) with
    | true => rw [e] at h; cases h; exact ⟨x, rfl, q⟩
    | false => rw [e] at h; exact frep_get r h
def tQ (K : PySem.W.Frag) (a dd : Addr) (fs : List (PySem.Str × D)) (i : Nat) (f : Ev D) : TE := fun σ H Q => ∃ Γ S Hf μ fv, SlOk K Γ σ H Hf μ ∧ StoOk K S H Hf μ ∧ σ[i]? = some (some (V.ref a)) ∧ Hf dd = some (.xd fv) ∧ FRep K μ Hf fs fv ∧ Out K (RepR K) W0 σ H Hf μ (f Γ S) Q
def tQs (K : PySem.W.Frag) (a dd : Addr) (fs : List (PySem.Str × D)) (i : Nat) (f : Ev (List D)) : TA := fun σ H Q => ∃ Γ S Hf μ fv, SlOk K Γ σ H Hf μ ∧ StoOk K S H Hf μ ∧ σ[i]? = some (some (V.ref a)) ∧ Hf dd = some (.xd fv) ∧ FRep K μ Hf fs fv ∧ Out K (RepLR K) W0 σ H Hf μ (f Γ S) Q
def eFld (f : PySem.Str) (fs : List (PySem.Str × D)) : Ev D := fun _ S => match fs.lookup f with
  | some d => .ok d S
  | none => .no
/-- the facts of the class: fields are read, isinstance asked -/
structure ExF (K : PySem.W.Frag) (C : Addr) : Prop where
  ga : PySem.W.findIn K (.ref C) "__getattribute__" = some (some (.builtin "BaseException.__getattribute__"))
  gg : PySem.W.findIn K (.ref C) "__getattr__" = some none
  su : PySem.W.subIn K (.ref C) (.type "BaseException") = some true
  hd : PySem.W.hasDictIn K C = true
  cl : PySem.W.findIn K (.ref C) "__class__" = some (some (.builtin "object.__class__"))
  sp : PySem.W.specialIn K (.builtin "object.__class__") "__get__" = some (some (.builtin "getset_descriptor.__get__"))
  tk : PySem.W.takesIn K (.builtin "object.__class__") = some true
  ob : PySem.W.mroIn K C (.type "object") = some true
def exFB (K : PySem.W.Frag) (C : Addr) : Bool := decide (PySem.W.findIn K (.ref C) "__getattribute__" = some (some (.builtin "BaseException.__getattribute__"))) && (decide (PySem.W.findIn K (.ref C) "__getattr__" = some none) && (decide (PySem.W.subIn K (.ref C) (.type "BaseException") = some true) &&
  (PySem.W.hasDictIn K C && (decide (PySem.W.findIn K (.ref C) "__class__" = some (some (.builtin "object.__class__"))) && (decide (PySem.W.specialIn K (.builtin "object.__class__") "__get__" = some (some (.builtin "getset_descriptor.__get__"))) &&
  (decide (PySem.W.takesIn K (.builtin "object.__class__") = some true) && decide (PySem.W.mroIn K C (.type "object") = some true)))))))
theorem exF_of {K : PySem.W.Frag} {C : Addr} (h : exFB K C = true) : ExF K C := by
  simp only [exFB, Bool.and_eq_true, decide_eq_true_eq] at h
  obtain ⟨h1, h2, h3, h4, h5, h6, h7, h8⟩ := h
  exact ⟨h1, h2, h3, h4, h5, h6, h7, h8⟩
theorem kitE {K : PySem.W.Frag} {C x : Addr} {ox : Obj} {od : Option Obj} (T : ExF K C) : PySem.W.KitX K (.ref x) (.ref C) (fun h => PySem.W.InstAt h x ox C od) where
  ty := fun _ _ _ I => I.type
  it := fun _ _ X _ => by
    obtain ⟨cd, hc, _⟩ := PySem.W.any_some T.hd
    unfold PySem.W.clsIn at hc
    split at hc
    next ho => exact fun A' Q' E' s' k q => by unfold isType loadHead; exact wpAny_bind (wpAny_loadPart (k _ _ (X _ _ ho)) (wpAny_pure q))
    · cases hc
  ne := fun h tp dd its n sl X htp => by
    obtain ⟨cd, hc, _⟩ := PySem.W.any_some T.hd
    refine Bool.eq_false_iff.mpr fun q => ?_
    have e : C = tp := Value.ref.inj (beq_iff_eq.mp q)
    subst e
    unfold PySem.W.clsIn at hc
    split at hc
    next ho => have z := (X _ _ ho).symm.trans htp; cases z
    · cases hc
  ca := fun X I k => by
    obtain ⟨cd, hc, _⟩ := PySem.W.any_some T.hd
    exact PySem.W.kx_classE X I T.ga T.gg T.su (PySem.W.findObj_dataE (by rw [hc]; rfl) T.cl T.sp T.tk) T.ob k
section
variable {X : Cx} {a dd : Addr} {oe : Obj} {pn : List (Addr × Obj)} {fs : List (PySem.Str × D)} {i : Nat} {C x : PySem.Str} {e : Expr} {es : List Expr} {f : Ev D} {g : Ev (List D)} {pos p p2 : Pos}
abbrev DQ (X : Cx) (a dd : Addr) (fs : List (PySem.Str × D)) (i : Nat) (e : Expr) (f : Ev D) : Prop := PE X e (tQ X.K a dd fs i f)
abbrev DQs (X : Cx) (a dd : Addr) (fs : List (PySem.Str × D)) (i : Nat) (es : List Expr) (f : Ev (List D)) : Prop := PA X es (tQs X.K a dd fs i f)
theorem q_of (h : DE X W0 e f) : DQ X a dd fs i e f := PE_imp h fun σ H Q ⟨Γ, S, Hf, μ, fv, sl, so, _, _, _, o⟩ => ⟨Γ, S, Hf, μ, sl, so, o⟩
theorem qs_nil : DQs X a dd fs i [] aNil := PA_imp pa_nil fun σ H Q ⟨Γ, S, Hf, μ, fv, sl, so, _, _, _, o⟩ => o [] H Hf μ (Step.refl _ _ _) so RepL.nil
theorem qs_cons (h : DQ X a dd fs i e f) (k : DQs X a dd fs i es g) (hs : starEach (e :: es) X.env = (false, eval e X.env) :: starEach es X.env := by rfl) : DQs X a dd fs i (e :: es) (aCons f g) :=
  PA_imp (pa_cons h k hs) fun σ H Q ⟨Γ, S, Hf, μ, fv, sl, so, hi, hd, hr, o⟩ => ⟨Γ, S, Hf, μ, fv, sl, so, hi, hd, hr, Out.bind sl rm_repL o fun d S1 v H1 Hf1 μ1 _ s1 sl1 so1 r1 o1 =>
    ⟨Γ, S1, Hf1, μ1, fv, sl1, so1, hi, s1.fz _ _ hd, KRep.mono s1.fz s1.mu hr, Out.bind sl1 rm_repL o1 fun ds S2 vs H2 Hf2 μ2 _ s2 sl2 so2 r2 o2 => o2 (v :: vs) H2 Hf2 μ2 (Step.refl _ _ _) so2 (RepL.cons (s2.rep r1) r2)⟩⟩
/-- e.f -/
theorem q_fld {fl : PySem.Str} (T : ExF X.K (He.ga X.K C)) (hno : PySem.W.findIn X.K (.ref (He.ga X.K C)) fl = some none) (hz : Zc (.ref (He.ga X.K C)) (some dd) oe) (hf : ∃ vs, oe.data = .fields vs)
    (hN : (X.suite a ((a, oe) :: pn)).N[i]? = some x := by rfl) (hv : Vis (X.suite a ((a, oe) :: pn)).env.scope x := by first | exact Or.inl rfl | exact Or.inr (Or.inl rfl) | exact Or.inr (Or.inr rfl)) (hd : (x == ("__debug__" : PySem.Str)) = false := by decide) (hcd : (x == ("__classdict__" : PySem.Str)) = false := by decide)
    (hb : attributeBase (.Name x p) fl X.env (eval (.Name x p) X.env) = eval (.Name x p) X.env := by rfl) : DQ (X.suite a ((a, oe) :: pn)) a dd fs i (.Attribute (.Name x p) fl pos) (eFld fl fs) :=
  PE_imp (pe_xf ⟨T.ga, T.gg, T.su, T.hd⟩ hno hz hf (pe_var (i := i) hN hv hd hcd) hb) fun σ H Q ⟨Γ, S, Hf, μ, fv, sl, so, hi, hd, hr, o⟩ => by
    unfold eFld at o
    cases e : fs.lookup fl with
    | none => rw [e] at o; exact o.elim
    | some d =>
      rw [e] at o
      obtain ⟨v, h1, h2⟩ := frep_get hr e
      exact ⟨.ref a, hi, rfl, rfl, dd, fv, v, rfl, so.sub _ _ hd, h1, o v H Hf μ (Step.refl _ _ _) so h2⟩
/-- isinstance(e, an own class) -/
theorem call_isX {c : Addr} {b : Bool} (T : ExF X.K (He.ga X.K C)) (hk : PySem.W.kitOne X.K (.ref (He.ga X.K C)) (.ref c) = some b) (hz : Zc (.ref (He.ga X.K C)) (some dd) oe) (hf : ∃ vs, oe.data = .fields vs) :
    CallR (X.suite a ((a, oe) :: pn)) (.builtin "isinstance") (fun xs H Q => xs = [.ref a, .ref c] ∧ (∃ fv, H dd = some (.xd fv)) ∧ Q (.bl b) H) := by
  intro pins s σ H xs us Q I r h
  obtain ⟨rfl, ⟨fv, hdd⟩, q⟩ := h
  obtain ⟨u1, u2, rfl, r1, r2⟩ := vals2 r
  cases (show u1 = Value.ref a from r1)
  cases (show u2 = Value.ref c from r2)
  obtain ⟨hget, _⟩ := I.pin (a, oe) (List.mem_append.mpr (.inl List.mem_cons_self))
  obtain ⟨vs, hv⟩ := hf
  have hx : ObjOk X.prog X.w H s.heap dd (.xd fv) := I.hok dd _ hdd
  obtain ⟨mA, hns, _⟩ := hx
  obtain ⟨od, ho, _⟩ := lookIn_ns hns
  have J : PySem.W.InstAt s.heap a oe (He.ga X.K C) (some od) := ⟨hget, hz.1, by unfold PySem.W.notCls; rw [hv] <;> rfl, by rw [hz.2]; exact ho⟩
  exact PySem.W.kia_one (kitE T) I.kIn J hk (fun z => nomatch z) fun tk => ⟨.bl b, H, I.kept (t' := tk) fun _ _ z => z, rfl, q⟩
theorem q_isi {y : PySem.Str} {b : Bool} {n1 n2 : Pos} (T : ExF X.K (He.ga X.K C)) (hk : PySem.W.kitOne X.K (.ref (He.ga X.K C)) (.ref (He.ga X.K y)) = some b) (hz : Zc (.ref (He.ga X.K C)) (some dd) oe) (hf : ∃ vs, oe.data = .fields vs)
    (hg : Gl X "isinstance") (hm : X.mg "isinstance" = none) (hgy : Gl X y) (hmy : X.mg y = some (.ref (He.ga X.K y))) (hv' : bootBuiltins "isinstance" = some (.builtin "isinstance"))
    (hN : (X.suite a ((a, oe) :: pn)).N[i]? = some x := by rfl) (hv : Vis (X.suite a ((a, oe) :: pn)).env.scope x := by first | exact Or.inl rfl | exact Or.inr (Or.inl rfl) | exact Or.inr (Or.inr rfl)) (hd : (x == ("__debug__" : PySem.Str)) = false := by decide) (hcd : (x == ("__classdict__" : PySem.Str)) = false := by decide)
    (hdy : (y == ("__debug__" : PySem.Str)) = false := by decide)
    (he : starEach [.Name x n1, .Name y n2] X.env = (false, eval (.Name x n1) X.env) :: starEach [.Name y n2] X.env := by rfl) (he2 : starEach [.Name y n2] X.env = (false, eval (.Name y n2) X.env) :: starEach [] X.env := by rfl)
    (hpl : (backTo pos (starEach [.Name y n2] X.env)).any (·.1) = false := by rfl) :
    DQ (X.suite a ((a, oe) :: pn)) a dd fs i (.Call (.Name "isinstance" p) [.Name x n1, .Name y n2] [] pos) (eC (.bl b)) :=
  PE_imp (pe_callB (call_isX T hk hz hf) hg hm hv' (pa_cons (pe_var (i := i) hN hv hd hcd) (pa_cons (pe_glob (v := .ref (He.ga X.K y)) hgy hmy rfl hdy) pa_nil he2) he) (by decide) (by decide) he hpl) fun σ H Q ⟨Γ, S, Hf, μ, fv, sl, so, hi, hd, hr, o⟩ =>
    ⟨.ref a, hi, rfl, ⟨fv, so.sub _ _ hd⟩, o (.bl b) H Hf μ (Step.refl _ _ _) so (by simp only [Rep])⟩
end

/-! ### try .. except C as e: one statement y = [..] -/
def tSu (K : PySem.W.Frag) (B : Base) (a dd : Addr) (fs : List (PySem.Str × D)) (i : Nat) (f : Es) : TS := fun E σ H => ∃ Γ S Hf μ fv, Rl K B Γ S σ H Hf μ ∧ σ[i]? = some (some (V.ref a)) ∧ Hf dd = some (.xd fv) ∧ FRep K μ Hf fs fv ∧ SOut K B W0 E (f Γ S)
/-- a new list, frozen -/
def eLs (g : Ev (List D)) : Ev D := fun Γ S => (g Γ S).bind fun ds S1 => if ds.length ≤ sizeLine then .ok (.lst ds) S1 else .no
theorem SlOk.forget {K : PySem.W.Frag} {B : Base} {Γ : Gm} {S : Store} {σ : L2.St} {H Hf : Hp} {μ : List Addr} (r : Rl K B Γ S σ H Hf μ) (i : Nat) (x : Option V) : Rl K B (Γ.set i none) S (σ.set i x) H Hf μ :=
  ⟨r.sl.setO i x, r.so, r.st, fun j o p e1 e2 => by
    by_cases hj : i = j
    · subst hj
      by_cases hl : i < Γ.length
      · rw [List.getElem?_set_self hl] at e1; cases e1
      · rw [List.getElem?_eq_none (by rw [List.length_set]; omega)] at e1; cases e1
    · rw [List.getElem?_set_ne hj] at e1 e2
      exact r.own j o p e1 e2, r.fz, r.pm⟩
section
variable {X : Cx} {a dd : Addr} {oe : Obj} {pn : List (Addr × Obj)} {fs : List (PySem.Str × D)} {i j : Nat} {e : Expr} {g : Ev (List D)} {y : PySem.Str} {pos p p2 : Pos} {es : List Expr}
/-- y = [..] in the suite -/
theorem su_set {B : Base} (j : Nat) (h : DQs X a dd fs i es g) (hN : X.N.Nodup) (hi : X.N[j]? = some y := by rfl) (hx : Loc X.env.scope y := by first | exact Or.inl rfl | exact Or.inr rfl)
    (hs : swapsWith (.List es p2) (some (.Name y p)) pos.line X.env = pure false := by rfl) (hf : X.fn y = true ∨ X.env.scope.names.lookup y = some .local := by first | exact .inl rfl | exact .inr rfl | assumption) :
    PSs X [.Assign [.Name y p] (.List es p2) pos] (tSu X.K B a dd fs i (sSet j (eLs g))) :=
  PSs_imp (pss_one (ps_set hN hi hx (pe_lst h) hs hf)) fun E σ H ⟨Γ, S, Hf, μ, fv, r, hi, hd, hr, o⟩ => by
    unfold sSet eLs at o
    refine ⟨Γ, S, Hf, μ, fv, r.sl, r.so, hi, hd, hr, ?_⟩
    cases e1 : g Γ S with
    | no => rw [e1] at o; exact o
    | ex C gs S1 => rw [e1] at o; exact fun dd2 gv H1 Hf1 μ1 s1 so1 z1 z2 => o dd2 gv σ H1 Hf1 μ1 (r.step s1 so1) z1 z2
    | ok ds S1 =>
      rw [e1, RE.bind_ok] at o
      intro vs H1 Hf1 μ1 s1 so1 r1
      split at o
      next hz =>
        refine ⟨by rw [RepL.length r1]; exact hz, fun q hq => ?_⟩
        obtain ⟨st, so2⟩ := Step.lay (u := .lst vs) so1 hq
        exact o _ _ _ _ (((r.step s1 so1).step st so2).setV j (d := .lst ds) (v := .ref q) (by simp only [Rep]; exact ⟨q, vs, rfl, upd_same, by rw [RepL.length r1]; exact hz, st.repL r1⟩))
      · exact o.elim
end
def sTryAs (i : Nat) (C : PySem.Str) (fb : Es) (fsu : List (PySem.Str × D) → Es) : Es := fun Γ S => match fb Γ S with
  | .ex C' fs Γ' S' => if C' = C ∧ i < Γ'.length then (match fsu fs (Γ'.set i none) S' with
    | .nx Γ2 S2 => .nx (Γ2.set i none) S2
    | .rt d S2 => .rt d S2
    | _ => .no) else .no
  | r => r
section
variable {X : Cx} {B : Base} {W : WX} {x n : PySem.Str} {i : Nat} {body suite : List Stmt} {b0 : Stmt} {np pos pos' : Pos} {fb : Es} {fsu : List (PySem.Str × D) → Es}
theorem ds_tryAs (hN : X.N.Nodup) (hi : X.N[i]? = some n) (hln : X.env.kindOf n = some .local) (hs : X.stack = X.env :: X.outer) (hf : X.env.frame = some X.env.locals) (hg : Gl X x) (hm : X.mg x = some (.ref (He.ga X.K x))) (tk : Takes X W)
    (hex : PySem.W.exmOne X.K (.ref (He.ga X.K x)) (.ref (He.ga X.K x)) = some true)
    (hb : ∀ (W' : WX) (pn : List (Addr × Obj)) (xe : Value → Shared → Prop), Takes (X.tr pn xe) W' → PassesOwn (model X.prog X.w) X.A X.env xe → DSs (X.tr pn xe) B W' body fb)
    (hsu : ∀ (a dd : Addr) (oe : Obj) (fs : List (PySem.Str × D)) (pn : List (Addr × Obj)) (B' : Base), Zc (.ref (He.ga X.K x)) (some dd) oe → (∃ vs, oe.data = .fields vs) → PSs (X.suite a ((a, oe) :: pn)) (b0 :: suite) (tSu X.K B' a dd fs i (fsu fs)))
    (hdb : (x == ("__debug__" : PySem.Str)) = false := by decide) :
    DS X B W (.Try body [.ExceptHandler (some (.Name x np)) (some n) (b0 :: suite) pos'] [] [] pos) (sTryAs i x fb fsu) := by
  intro fl ml
  let ts : Addr → Value → Option Addr → TS := fun a cls d E σ H => ∃ dd fs, d = some dd ∧ cls = .ref (He.ga X.K x) ∧ tSu X.K (B.at fl ml) a dd fs i (fsu fs) E σ H
  refine PS_imp (ps_try_as (c := .ref (He.ga X.K x)) (ts := ts) (Wout := W) (tb := fun W' => tS X.K (B.at fl ml) W' fb) hs hf hN hi hln ⟨hg, hdb, .inl hm⟩ tk (fun W' pn xe h1 h2 => hb W' pn xe h1 h2 fl ml) fun a oe cls d pn hz hv => ?_) fun E σ H ⟨Γ, S, Hf, μ, r, o⟩ => ⟨Γ, S, Hf, μ, r, ?_⟩
  · refine ⟨fun pins s σ H E I h => ?_⟩
    obtain ⟨dd, fs, rfl, rfl, h⟩ := h
    exact (hsu a dd oe fs pn _ hz hv).run pins s σ H E I h
  · unfold sTryAs at o
    cases e : fb Γ S with
    | nx Γ' S' => rw [e] at o; exact o
    | rt d S' => rw [e] at o; exact o
    | bk Γ' S' => rw [e] at o; exact o
    | ct Γ' S' => rw [e] at o; exact o
    | no => rw [e] at o; exact o
    | ex C' fs Γ' S' =>
      simp only [e] at o
      split at o
      next hC =>
        obtain ⟨rfl, hlt⟩ := hC
        intro dd fv σ' H' Hf' μ' r' hd hr
        refine ⟨true, hex, fun _ a ha => ⟨dd, fs, rfl, rfl, Γ'.set i none, S', Hf', μ', fv, SlOk.forget r' i _, ?_, hd, hr, ?_⟩, fun z => nomatch z⟩
        · have hl : i < σ'.length := by
            rw [← r'.sl.len]
            exact hlt
          exact List.getElem?_set_self hl
        · cases e2 : fsu fs (Γ'.set i none) S' with
          | nx Γ2 S2 =>
            simp only [e2] at o
            exact fun σ2 H2 Hf2 μ2 r2 => o _ _ _ _ (SlOk.forget r2 i none)
          | rt d S2 => simp only [e2] at o; exact o
          | bk Γ2 S2 => simp only [e2] at o; exact o.elim
          | ct Γ2 S2 => simp only [e2] at o; exact o.elim
          | ex C2 fs2 Γ2 S2 => simp only [e2] at o; exact o.elim
          | no => simp only [e2] at o; exact o.elim
      · exact o.elim
end
end DL
set_option Elab.async false
set_option linter.all false
set_option maxRecDepth 100000
set_option maxHeartbeats 4000000
/-! DLo: a law's end for defs that may show things; the Hook. -/
namespace DL
open PySem PySem.Spec PyProof.Rows L2

/-- the promise of the law's def at the heap behind the top -/
theorem law_callG {P : Program} {w : World} {K : PySem.W.Frag} {mg mb : PySem.Str → Option Value} {k : Nat} {fa a : Addr} {fd : FuncData} {x : PySem.Str} {sp : Sp} {t : Shared} {us : List Value} {ns : List Int}
    (KT : K.In t.heap) (nG : t.heap.Ns mainGlobals mg) (nB : t.heap.Ns builtinsNs mb) (eB : ∀ y : PySem.Str, y ≠ "__name__" → mb y = bootBuiltins y) (nl : t.heap.NoLimit) (g0 : t.gens = #[])
    (hL : t.heap.get? a = some { cls := .type "list", data := .seq us.toArray }) (hI : IntsAre us ns) (hz : ns.length ≤ sizeLine) (rm : Room k callerA)
    (F : ∀ base : Heap, K.In base → base.Ns mainGlobals mg → FnG P w K mg base k fa fd [x] sp) (bd : ∀ (s : Shared) (u : Value), BindsTo s fd ⟨[u], []⟩ [(x, u)])
    (go : ∀ H : Hp, Only H → SqL K H a (ns.map V.int) → sp [.ref a] H (fun v _ => v = .bl true) fun _ _ _ => False) :
    codeAny (model P w) callerA (.call (.ref fa) ⟨[.ref a], []⟩) (fun r z => r = .ok (.ret (.bool true)) ∧ OldK t.heap z.heap ∧ z.os = t.os ∧ AllBare z.gens) t := by
  have vv := vals_ints hI
  have key : ∀ H : Hp, Only H → SqL K H a (ns.map V.int) → HOk P w H t.heap → (∀ b, H b ≠ none → b = a) → (H a ≠ none → K.lookup a = none) →
      codeAny (model P w) callerA (.call (.ref fa) ⟨[.ref a], []⟩) (fun r z => r = .ok (.ret (.bool true)) ∧ OldK t.heap z.heap ∧ z.os = t.os ∧ AllBare z.gens) t := fun H on sq ok only apart => by
    have free_of : ∀ {b : Addr} {o : Obj} {es : Array DictEntry} {n : Nat}, t.heap.get? b = some o → o.data = .dict es n → H b = none := fun {b o es n} e1 e2 => Classical.byContradiction fun z => by
      have eb := only b z
      rw [eb, hL] at e1
      cases e1
      cases (show Data.seq us.toArray _ = Data.dict es n from e2)
    have hidNs : ∀ {b : Addr} {m : PySem.Str → Option Value}, t.heap.Ns b m → (hidT t.heap H).Ns b m := fun ⟨o, es, n, e1, e2, r⟩ => ⟨o, es, n, hidT_get e1 (free_of e1 e2), e2, r⟩
    have hidK : K.In (hidT t.heap H) := fun b o e => hidT_get (KT b o e) (Classical.byContradiction fun z => by
      have eb := only b z
      rw [eb] at e z
      rw [apart z] at e
      cases e)
    obtain ⟨mc, n1, n2⟩ := nl
    have md : Mod K mg (hidT t.heap H) := ⟨hidK, hidNs nG, ⟨mb, hidNs nB, eB⟩, ⟨mc, hidNs n1, n2⟩⟩
    have ev : Env0 P w K mg (hidT t.heap H) callerA [] t H := ⟨rfl, md, fun _ _ e => of_hidT e, Nat.le_of_eq (hidT_size _ _), trivial, fun b hb => absurd (show b ∈ ([] : List Addr) from hb) (by simp), ok, .of_eq g0⟩
    refine codeAny_mono ((F _ hidK (hidNs nG)).run callerA [] t H ⟨[.ref a], []⟩ [.ref a] [.ref a] _ _ rm rfl ev (bd t (.ref a)) (.cons rfl .nil) (go H on sq)) fun r z hr => ?_
    match r, hr with
    | .error e, ⟨_, _, _, _, _, _, _, _, _, _, _, _, no⟩ => exact no.elim
    | .ok .next, hr => exact False.elim hr
    | .ok .brk, hr => exact False.elim hr
    | .ok .cont, hr => exact False.elim hr
    | .ok (.ret u), hr =>
      obtain ⟨v, H2, os, bare, un, ok2, rv, q⟩ := hr
      have q : v = .bl true := q
      rw [q] at rv
      have eu : u = Value.bool true := rv
      refine ⟨by rw [eu], OldK.of_keep fun b o e => ?_, os, bare⟩
      cases hb : H b with
      | none => exact un.keep b o e hb (by intro m; exact absurd (show b ∈ ([] : List Addr) from m) (by simp)) (by simp)
      | some y =>
        rcases on b with n | ⟨ob, xs, fr⟩
        · rw [hb] at n; cases n
        · obtain ⟨f1, _⟩ := ok b _ fr
          obtain ⟨f2, _⟩ := ok2 b _ (un.frzs b ob _ fr)
          rw [e] at f1
          cases f1
          exact f2
  by_cases inK : ∃ o, K.lookup a = some o
  · obtain ⟨o, hk⟩ := inK
    have e := KT a o hk
    rw [hL] at e
    cases e
    exact key (fun _ => none) (fun _ => .inl rfl) (.inr ⟨_, us.toArray, _, hk, rfl, rfl, rfl, by rw [List.size_toArray, hI.length]; exact hz, by simpa using vv⟩) (fun b u z => nomatch (show (none : Option HO) = some u from z)) (fun b z => absurd rfl z) fun z => absurd rfl z
  · have hk : K.lookup a = none := Option.eq_none_iff_forall_ne_some.mpr fun o z => inK ⟨o, z⟩
    let G : Hp := fun b => if b = a then some (.frz { cls := .type "list", data := .seq us.toArray } (.lst (ns.map V.int))) else none
    have Ga : G a = some (.frz { cls := .type "list", data := .seq us.toArray } (.lst (ns.map V.int))) := if_pos rfl
    have Gn : ∀ {b : Addr}, b ≠ a → G b = none := fun h => if_neg h
    refine key G (fun b => ?_) (.inl (.inr ⟨_, Ga⟩)) (fun b u z => ?_) (fun b z => Classical.byContradiction fun n => z (Gn n)) fun _ => hk
    · by_cases e : b = a
      · exact .inr ⟨_, _, by rw [e]; exact Ga⟩
      · exact .inl (Gn e)
    · by_cases e : b = a
      · subst e
        rw [Ga] at z
        cases z
        exact ⟨hL, by rw [List.length_map]; exact hz, us, _, vv, hL⟩
      · rw [Gn e] at z
        cases z

/-- the Hook: the facts, and one Bool more -/
def hookG (n : Nat) (fa : List He.Fa) (fn : List He.DefD) (ex : PySem.W.Frag → Bool) : PySem.W.Hook where
  α := He.AlD × Bool
  obs := fun s => (He.obsDG n fa fn s.heap.get?, ex (He.frG s.heap.get? (He.asD s.heap.get? n)))
  val := fun _ => (He.valD fn, true)
  says := fun _ h => ∃ K : PySem.W.Frag, K.In h ∧ He.SaysD fa fn K ∧ ex K = true
  of := fun _ _ e => ⟨_, He.frG_in, congrArg Prod.fst e, congrArg Prod.snd e⟩
  keeps := fun _ _ _ ⟨K, hK, c⟩ k => ⟨K, PySem.W.Frag.In.keeps hK k, c⟩
def obG (n : Nat) (fa : List He.Fa) (fn : List He.DefD) (ex : PySem.W.Frag → Bool) (g : Addr → Option Obj) : He.AlD × Bool := (He.obsDG n fa fn g, ex (He.frG g (He.asD g n)))
theorem obG_eq {n : Nat} {fa : List He.Fa} {fn : List He.DefD} {ex : PySem.W.Frag → Bool} {g : Addr → Option Obj} {s : Shared} (h : ∀ a, g a = s.heap.get? a) : obG n fa fn ex g = (hookG n fa fn ex).obs s := by
  have e : g = s.heap.get? := funext h
  subst e
  rfl

/-- a law whose def is told by F, which answers True of every list of ints of the wish -/
theorem walk_G {l : PySem.W.OpenLaw} {n k : Nat} {q : Program} {loose : List PySem.Str} {XP : (PySem.Str → Option Value) → Heap → Prop} {fa : List He.Fa} {fn : List He.DefD} {ex : PySem.W.Frag → Bool} {d : DefRec} {F : Fn} {dd : He.DefD}
    (hn : l.most = some n) (hn2 : n ≤ sizeLine) (hdf : d.params.defaults = []) (hr : Room k callerA) (hname : d.name = dd.name)
    (hb : BindsP dd ["script"])
    (ok : ∀ (w : World) (K : PySem.W.Frag) (mg : PySem.Str → Option Value) (base : Heap), Cn fa fn ex K mg base → OkD l.prog w K mg base dd ["script"] k F)
    (law : ∀ ns : List Int, ns.length ≤ n → ∃ S, F [.kst (ns.map .int)] [] = .ok (.bl true) S) :
    PySem.W.WalkO q loose XP (hookG 4 fa fn ex).says l.row.toRowW d [] (fun f vs => PySem.call f vs) := by
  refine Att.attach_call hn hdf fun w s0 s1 mg mb f o pm cd doc a vs ns G Y ho hd hcd hmg hobj hints hlen hg => ?_
  obtain ⟨K, KX, c, hex⟩ := Y
  rw [hname] at hmg
  have okd := fun base h1 h2 => ok w K mg base ⟨c, h1, h2, hex⟩
  obtain ⟨f0, fd, e0, F0, G0⟩ := okd s1.heap KX G.T.g
  rw [hmg] at e0
  cases e0
  have B0 := FunD.bindsA (ps := ["script"]) F0 hb
  refine law_callG (sp := spD K 1 F) (x := "script") KX G.T.g G.T.b G.T.builtins G.T.nolimit hg hobj hints (Nat.le_trans hlen hn2) hr (fun base h1 h2 => ?_) (fun s v => B0 s [v] rfl) fun H on sq => ?_
  · obtain ⟨f1, fd1, e1, F1, G1⟩ := okd base h1 h2
    rw [hmg] at e1
    cases e1
    obtain ⟨oc, od, dV, kV, dc, pm1, an, cdv, ct, osl, rfl, lk, _⟩ := F0.ex
    obtain ⟨oc2, od2, dV2, kV2, dc2, pm2, an2, cdv2, ct2, osl2, rfl, lk2, _⟩ := F1.ex
    rw [lk] at lk2
    have z := Option.some.inj lk2
    injection z with z1 z2 z3 z4
    injection z3 with z5
    rw [z5]
    exact G1
  · obtain ⟨S, hS⟩ := law ns hlen
    refine ⟨rfl, [.kst (ns.map .int)], [], H, [], RepL.cons ?_ RepL.nil, ⟨Sub.refl _, rfl, List.nodup_nil, fun n o a e1 e2 => (by cases e1), fun a m => (by cases m)⟩, ?_⟩
    · simp only [Rep]
      refine ⟨a, ns.map V.int, rfl, sq, by rw [List.length_map]; exact Nat.le_trans hlen hn2, ?_⟩
      clear hS sq hlen hints
      induction ns with
      | nil => exact RepL.nil
      | cons i ns ih => exact RepL.cons (by simp only [Rep]) ih
    · rw [hS]
      intro v H' Hf' μ' _ _ r
      simpa only [Rep] using r
end DL
set_option Elab.async false
set_option linter.all false
set_option maxRecDepth 100000
/-! DLs: how the meanings compute. -/
namespace DL
open PySem PySem.Spec PyProof.Rows L2
section
variable (Γ : Gm) (S : Store)
@[simp] theorem c_ini0 (n : Nat) : ini n [] = List.replicate n none := by simp [ini]
@[simp] theorem c_ini (n : Nat) (d : D) (ds : List D) : ini (n + 1) (d :: ds) = some (.val d) :: ini n ds := by simp [ini]
@[simp] theorem c_eC (d : D) : eC d Γ S = .ok d S := rfl
@[simp] theorem c_eTy (k : Kd) : eTy k Γ S = .ok (.raw (.ty k.name)) S := rfl
@[simp] theorem c_eV (i : Nat) : eV i Γ S = (match Γ[i]? with | some (some (.val d)) => .ok d S | _ => .no) := rfl
@[simp] theorem c_eVb (i : Nat) : eVb i Γ S = (match Γ[i]? with | some (some (.val d)) => .ok d S | some (some (.own (.lst ds))) => .ok (.lst ds) S | _ => .no) := rfl
@[simp] theorem c_eBin2 (op : Op2) (a b : Ev D) : eBin2 op a b Γ S = (a Γ S).bind fun x S1 => (b Γ S1).bind fun y S2 => match op S2 x y with | some z => .ok z S2 | none => .no := rfl
@[simp] theorem c_eNot (f : Ev D) : eNot f Γ S = (f Γ S).bind fun d S' => match d with | .bl b => .ok (.bl (!b)) S' | _ => .no := rfl
@[simp] theorem c_eAnd (f g : Ev D) : eAnd f g Γ S = (f Γ S).bind fun x S' => match x with | .bl true => g Γ S' | .bl false => .ok (.bl false) S' | _ => .no := rfl
@[simp] theorem c_eOr (f g : Ev D) : eOr f g Γ S = (f Γ S).bind fun x S' => match x with | .bl true => .ok (.bl true) S' | .bl false => g Γ S' | _ => .no := rfl
@[simp] theorem c_eIf (c : Ev Bool) (f g : Ev D) : eIf c f g Γ S = (c Γ S).bind fun b S' => if b then f Γ S' else g Γ S' := rfl
@[simp] theorem c_toB (f : Ev D) : toB f Γ S = (f Γ S).bind fun d S' => match d with | .bl b => .ok b S' | _ => .no := rfl
@[simp] theorem c_ofB (f : Ev Bool) : ofB f Γ S = (f Γ S).bind fun b S' => .ok (.bl b) S' := rfl
@[simp] theorem c_bNot (t : Ev Bool) : bNot t Γ S = (t Γ S).bind fun b S' => .ok (!b) S' := rfl
@[simp] theorem c_bAnd (t u : Ev Bool) : bAnd t u Γ S = (t Γ S).bind fun b S' => if b then u Γ S' else .ok false S' := rfl
@[simp] theorem c_bOr (t u : Ev Bool) : bOr t u Γ S = (t Γ S).bind fun b S' => if b then .ok true S' else u Γ S' := rfl
@[simp] theorem c_bCh (op op' : Op2) (fa fb fc : Ev D) : bCh op op' fa fb fc Γ S = (fa Γ S).bind fun x S1 => (fb Γ S1).bind fun y S2 => match op S2 x y with
  | some (.bl true) => (fc Γ S2).bind fun z S3 => (match op' S3 y z with
    | some (.bl b) => .ok b S3
    | _ => .no)
  | some (.bl false) => .ok false S2
  | _ => .no := rfl
@[simp] theorem c_aNil : aNil Γ S = .ok [] S := rfl
@[simp] theorem c_aCons (f : Ev D) (g : Ev (List D)) : aCons f g Γ S = (f Γ S).bind fun d S1 => (g Γ S1).bind fun ds S2 => .ok (d :: ds) S2 := rfl
@[simp] theorem c_eTup (g : Ev (List D)) : eTup g Γ S = (g Γ S).bind fun ds S1 => if ds.length ≤ sizeLine then .ok (.tup ds) S1 else .no := rfl
@[simp] theorem c_nLst (g : Ev (List D)) : nLst g Γ S = (g Γ S).bind fun ds S1 => if ds.length ≤ sizeLine then .ok (.lst ds) S1 else .no := rfl
@[simp] theorem c_eFrz (f : Ev SO) : eFrz f Γ S = (f Γ S).bind fun o S1 => match o with | .lst ds => .ok (.lst ds) S1 | _ => .no := rfl
@[simp] theorem c_ePb (f : Ev SO) : ePb f Γ S = (f Γ S).bind fun o S1 => .ok (.loc S1.length) (S1 ++ [o]) := rfl
@[simp] theorem c_eFn (op : OpN) (g : Ev (List D)) : eFn op g Γ S = (g Γ S).bind fun ds S1 => match op S1 ds with | some z => .ok z S1 | none => .no := rfl
@[simp] theorem c_nFn (op : Store → List D → Option SO) (g : Ev (List D)) : nFn op g Γ S = (g Γ S).bind fun ds S1 => match op S1 ds with | some z => .ok z S1 | none => .no := rfl
@[simp] theorem c_eCall (F : Fn) (g : Ev (List D)) : eCall F g Γ S = (g Γ S).bind fun ds S1 => F ds S1 := rfl
@[simp] theorem c_eCallK (F : Fn) (is : List Nat) (g : Ev (List D)) : eCallK F is g Γ S = (g Γ S).bind fun ds S1 => F (perm is ds) S1 := rfl
@[simp] theorem c_pNo : pNo Γ S = .ok none S := rfl
@[simp] theorem c_pAt (f : Ev D) : pAt f Γ S = (f Γ S).bind fun d S1 => match d with | .int i => .ok (some i) S1 | _ => .no := rfl
@[simp] theorem c_eSl (f : Ev D) (lo hi : Ev (Option Int)) : eSl f lo hi Γ S = (f Γ S).bind fun d S1 => (lo Γ S1).bind fun l S2 => (hi Γ S2).bind fun u S3 => match slD S3 d l u with | some z => .ok z S3 | none => .no := rfl
@[simp] theorem c_nSl (f : Ev D) (lo hi : Ev (Option Int)) : nSl f lo hi Γ S = (f Γ S).bind fun d S1 => (lo Γ S1).bind fun l S2 => (hi Γ S2).bind fun u S3 => match viewLs S3 d with | some ds => .ok (.lst (cutD ds l u)) S3 | none => .no := rfl
@[simp] theorem c_nSS (d : Nat) (B : Int) (f : Ev D) : nSS d B f Γ S = (f Γ S).bind fun x S1 => match (viewLs S1 x).bind tupsOf with | some l => (if ssOk d B l then .ok (.lst ((sortS l).map tupI)) S1 else .no) | none => .no := rfl
@[simp] theorem c_nRg1 (f : Ev D) : nRg1 f Γ S = (f Γ S).bind fun x S1 => match x with | .int n => (if rgOk 0 n then .ok (.lst (rngD 0 n.toNat)) S1 else .no) | _ => .no := rfl
@[simp] theorem c_nRg2 (f g : Ev D) : nRg2 f g Γ S = (f Γ S).bind fun x S1 => (g Γ S1).bind fun y S2 => match x, y with | .int m, .int n => (if rgOk m n then .ok (.lst (rngD m (n - m).toNat)) S2 else .no) | _, _ => .no := rfl
@[simp] theorem c_eMt (op : Op2) (f g : Ev D) : eMt op f g Γ S = (f Γ S).bind fun a S1 => if isLs S1 a then (g Γ S1).bind fun b S2 => (match op S2 a b with | some z => .ok z S2 | none => .no) else .no := rfl
@[simp] theorem c_eLs (g : Ev (List D)) : eLs g Γ S = (g Γ S).bind fun ds S1 => if ds.length ≤ sizeLine then .ok (.lst ds) S1 else .no := rfl
@[simp] theorem c_eFld (f : PySem.Str) (fs : List (PySem.Str × D)) : eFld f fs Γ S = (match fs.lookup f with | some d => .ok d S | none => .no) := rfl
@[simp] theorem c_eDGet (i : Nat) (f : Ev D) : eDGet i f Γ S = (match curO Γ S i with
  | some _ => (f Γ S).bind fun k S1 => (match curO Γ S1 i with
    | some o => (match dAt o k with
      | some (some c) => .ok c S1
      | _ => .no)
    | none => .no)
  | none => .no) := rfl
@[simp] theorem c_bDIn (neg : Bool) (i : Nat) (f : Ev D) : bDIn neg i f Γ S = (f Γ S).bind fun k S1 => match curO Γ S1 i with
  | some o => (match dAt o k with
    | some r => .ok (if neg then !r.isSome else r.isSome) S1
    | _ => .no)
  | none => .no := rfl
@[simp] theorem c_eDLen (i : Nat) : eDLen i Γ S = (match curO Γ S i with | some (.dT kvs) => .ok (.int (kvs.length : Nat)) S | _ => .no) := rfl
@[simp] theorem c_nDT : nDT Γ S = .ok (.dT []) S := rfl
@[simp] theorem c_nDK : nDK Γ S = .ok (.dK []) S := rfl
@[simp] theorem c_nLc (it : Ev (List D)) (vs : List Nat) (t : Tgt) (c : Ev Bool) (f : Ev D) : nLc it vs t c f Γ S = (it Γ S).bind fun ds S1 => if ds.length ≤ sizeLine then (lcL t c f (wipeG Γ vs) ds S1).bind fun xs S2 => .ok (.lst xs) S2 else .no := rfl
@[simp] theorem c_bYes : bYes Γ S = .ok true S := rfl
@[simp] theorem c_iSeq (f : Ev D) : iSeq f Γ S = (f Γ S).bind fun d S' => match d with | .lst ds => .ok ds S' | .kst ds => .ok ds S' | .tup ds => .ok ds S' | _ => .no := by
  unfold iSeq
  congr 1
@[simp] theorem c_iVia (f : List D → Option (List D)) (g : Ev (List D)) : iVia f g Γ S = (g Γ S).bind fun ds S' => match f ds with | some zs => .ok zs S' | none => .no := rfl
/-! statements -/
@[simp] theorem c_sNx : sNx Γ S = .nx Γ S := rfl
@[simp] theorem c_sBk : sBk Γ S = .bk Γ S := rfl
@[simp] theorem c_sCt : sCt Γ S = .ct Γ S := rfl
def seqR (r : RS) (g : Es) : RS := match r with
  | .nx Γ' S' => g Γ' S'
  | r => r
@[simp] theorem seqR_nx (g : Es) (Γ : Gm) (S : Store) : seqR (.nx Γ S) g = g Γ S := rfl
@[simp] theorem seqR_rt (g : Es) (d : D) (S : Store) : seqR (.rt d S) g = .rt d S := rfl
@[simp] theorem seqR_bk (g : Es) (Γ : Gm) (S : Store) : seqR (.bk Γ S) g = .bk Γ S := rfl
@[simp] theorem seqR_ct (g : Es) (Γ : Gm) (S : Store) : seqR (.ct Γ S) g = .ct Γ S := rfl
@[simp] theorem seqR_ex (g : Es) (C : PySem.Str) (fs : List (PySem.Str × D)) (Γ : Gm) (S : Store) : seqR (.ex C fs Γ S) g = .ex C fs Γ S := rfl
@[simp] theorem seqR_no (g : Es) : seqR .no g = .no := rfl
@[simp] theorem c_sSeq (f g : Es) : sSeq f g Γ S = seqR (f Γ S) g := rfl
@[simp] theorem c_sRt (f : Ev D) : sRt f Γ S = bindS Γ (f Γ S) fun d S' => .rt d S' := rfl
@[simp] theorem c_sRtN : sRtN Γ S = .rt .non S := rfl
@[simp] theorem c_sDr (f : Ev D) : sDr f Γ S = bindS Γ (f Γ S) fun _ S' => .nx Γ S' := rfl
@[simp] theorem c_sSet (i : Nat) (f : Ev D) : sSet i f Γ S = bindS Γ (f Γ S) fun d S' => .nx (Γ.set i (some (.val d))) S' := rfl
@[simp] theorem c_sNew (i : Nat) (f : Ev SO) : sNew i f Γ S = bindS Γ (f Γ S) fun o S' => .nx (Γ.set i (some (.own o))) S' := rfl
@[simp] theorem c_sIf (c : Ev Bool) (f g : Es) : sIf c f g Γ S = bindS Γ (c Γ S) fun b S' => if b then f Γ S' else g Γ S' := rfl
@[simp] theorem c_sFz (i : Nat) : sFz i Γ S = (match Γ[i]? with | some (some (.own (.lst ds))) => .nx (Γ.set i (some (.val (.lst ds)))) S | _ => .no) := rfl
@[simp] theorem c_sPb (i : Nat) : sPb i Γ S = (match Γ[i]? with | some (some (.own o)) => .nx (Γ.set i (some (.val (.loc S.length)))) (S ++ [o]) | _ => .no) := rfl
@[simp] theorem c_sMu (i : Nat) (m : SO → D → Option SO) (f : Ev D) : sMu i m f Γ S = (match Γ[i]? with
  | some (some (.own (.lst ds))) => bindS Γ (f Γ S) fun d S1 => (match m (.lst ds) d with
    | some o' => .nx (Γ.set i (some (.own o'))) S1
    | none => .no)
  | _ => .no) := rfl
@[simp] theorem c_sDPut (i : Nat) (fk fv : Ev D) : DL.sDPut i fk fv Γ S = bindS Γ (fv Γ S) fun v S1 => match curO Γ S1 i with
  | some _ => bindS Γ (fk Γ S1) fun k S2 => (match curO Γ S2 i with
    | some o => (match dPut o k v with
      | some o' => .nx (putO Γ S2 i o').1 (putO Γ S2 i o').2
      | none => .no)
    | none => .no)
  | none => .no := rfl
@[simp] theorem c_sIPut (i : Nat) (fk fv : Ev D) : sIPut i fk fv Γ S = bindS Γ (fv Γ S) fun v S1 => match curO Γ S1 i with
  | some _ => bindS Γ (fk Γ S1) fun k S2 => (match curO Γ S2 i, k with
    | some (.lst ds), .int z => (match ixN ds.length z with
      | some n => .nx (putO Γ S2 i (.lst (ds.set n v))).1 (putO Γ S2 i (.lst (ds.set n v))).2
      | none => .no)
    | _, _ => .no)
  | none => .no := rfl
@[simp] theorem c_sPot (i j : Nat) (z : Int) (f : Ev D) : sPot i j z f Γ S = bindS Γ (f Γ S) fun d S1 => match d with
  | .tup [a, b] => (match curO Γ S1 i with
    | some (.lst ds) => (match ixN ds.length z with
      | some n => .nx ((putO Γ S1 i (.lst (ds.set n a))).1.set j (some (.val b))) (putO Γ S1 i (.lst (ds.set n a))).2
      | none => .no)
    | _ => .no)
  | _ => .no := rfl
@[simp] theorem c_sUnp (t : Tgt) (f : Ev D) : sUnp t f Γ S = bindS Γ (f Γ S) fun d S1 => match t.run d Γ with | some Γ' => .nx Γ' S1 | none => .no := rfl
@[simp] theorem c_mNil : mNil Γ S = .ok [] S := rfl
@[simp] theorem c_mVal (f : Ev D) (g : Ev (List Sl)) : mVal f g Γ S = (f Γ S).bind fun d S1 => (g Γ S1).bind fun ds S2 => .ok (.val d :: ds) S2 := rfl
@[simp] theorem c_mNew (f : Ev SO) (g : Ev (List Sl)) : mNew f g Γ S = (f Γ S).bind fun d S1 => (g Γ S1).bind fun ds S2 => .ok (.own d :: ds) S2 := rfl
@[simp] theorem c_sPar (is : List Nat) (g : Ev (List Sl)) : sPar is g Γ S = bindS Γ (g Γ S) fun ss S1 => if ss.length = is.length then .nx (setM Γ is ss) S1 else .no := rfl
@[simp] theorem c_setM (i : Nat) (is : List Nat) (s : Sl) (ss : List Sl) : setM Γ (i :: is) (s :: ss) = setM (Γ.set i (some s)) is ss := rfl
@[simp] theorem c_setM0 : setM Γ [] [] = Γ := rfl
@[simp] theorem c_sFor (it : Ev (List D)) (t : Tgt) (body : Es) : sFor it t body Γ S = bindS Γ (it Γ S) fun ds S1 => forL t body ds Γ S1 := rfl
@[simp] theorem c_sLApp (g f : Ev D) : sLApp g f Γ S = bindS Γ (g Γ S) fun o S1 => match o with
  | .loc n => (match S1[n]? with
    | some (.lst _) => bindS Γ (f Γ S1) fun d S2 => (match S2[n]? with
      | some (.lst ds) => if ds.length < sizeLine then .nx Γ (S2.set n (.lst (ds ++ [d]))) else .no
      | _ => .no)
    | _ => .no)
  | _ => .no := rfl
@[simp] theorem c_sLClr (g : Ev D) : sLClr g Γ S = bindS Γ (g Γ S) fun o S1 => match o with
  | .loc n => (match S1[n]? with
    | some (.lst _) => .nx Γ (S1.set n (.lst []))
    | _ => .no)
  | _ => .no := rfl
@[simp] theorem c_sRaise2 (C f1 f2 : PySem.Str) (g : Ev (List D)) : sRaise2 C f1 f2 g Γ S = bindS Γ (g Γ S) fun ds S1 => match ds with | [a, b] => .ex C [(f2, b), (f1, a)] Γ S1 | _ => .no := rfl
@[simp] theorem c_gV (i : Nat) (d : D) : (gV i).run d Γ = some (Γ.set i (some (.val d))) := rfl
@[simp] theorem c_gT (n : Nat) (u : List D → Gm → Option Gm) (ix : List Nat) (ds : List D) (h : ds.length = n) : (gT n u ix).run (.tup ds) Γ = u ds Γ := by
  unfold gT
  simp [h]
@[simp] theorem c_gTl (n : Nat) (u : List D → Gm → Option Gm) (ix : List Nat) (ds : List D) (h : ds.length = n) : (gT n u ix).run (.lst ds) Γ = u ds Γ := by
  unfold gT
  simp [h]
@[simp] theorem c_gNilR : gNilR [] Γ = some Γ := rfl
@[simp] theorem c_gConsR (t : Tgt) (u : List D → Gm → Option Gm) (d : D) (r : List D) : gConsR t u (d :: r) Γ = (match t.run d Γ with | some Γ' => u r Γ' | none => none) := rfl
@[simp] theorem c_wipe0 : wipeG Γ [] = Γ := rfl
@[simp] theorem c_wipe (v : Nat) (vs : List Nat) : wipeG Γ (v :: vs) = (wipeG Γ vs).set v none := rfl
@[simp] theorem c_putO (i : Nat) (o' : SO) : putO Γ S i o' = (match Γ[i]? with | some (some (.own _)) => (Γ.set i (some (.own o')), S) | some (some (.val (.loc n))) => (Γ, S.set n o') | _ => (Γ, S)) := rfl
@[simp] theorem c_curO (i : Nat) : curO Γ S i = (match Γ[i]? with | some (some (.own o)) => some o | some (some (.val (.loc n))) => S[n]? | _ => none) := rfl
@[simp] theorem o_ixLoc (ds : List D) (R : Store) (i : Int) : oIx (.lst ds :: R) (.loc 0) (.int i) = L2.atI ds i := rfl
@[simp] theorem ixN_0 (n : Nat) : L2.ixN (n + 1) 0 = some 0 := by unfold L2.ixN; simp
@[simp] theorem ixN_1 (n : Nat) : L2.ixN (n + 2) 1 = some 1 := by unfold L2.ixN; simp; omega
@[simp] theorem sz_eq : sizeLine = 16777216 := sizeLine_eq
/-! operations -/
@[simp] theorem o_sub (i j : Int) : oSub S (.int i) (.int j) = some (.int (i - j)) := rfl
@[simp] theorem o_add (i j : Int) : oAdd S (.int i) (.int j) = some (.int (i + j)) := rfl
@[simp] theorem o_mul (i j : Int) : oMul S (.int i) (.int j) = if mulOk i j then some (.int (i * j)) else none := rfl
@[simp] theorem o_fdv (i j : Int) : oFdv S (.int i) (.int j) = if divOk i j then some (.int (i / j)) else none := rfl
@[simp] theorem o_mod (i j : Int) : oMod S (.int i) (.int j) = if decide (0 < j) then some (.int (i % j)) else none := rfl
@[simp] theorem o_pow (i j : Int) : oPow S (.int i) (.int j) = if powOk i j then some (.int (i ^ j.toNat)) else none := rfl
@[simp] theorem o_addT (xs ys : List D) : oAdd S (.tup xs) (.tup ys) = if xs.length + ys.length ≤ sizeLine then some (.tup (xs ++ ys)) else none := rfl
@[simp] theorem o_addL (xs ys : List D) : oAdd S (.lst xs) (.lst ys) = if xs.length + ys.length ≤ sizeLine then some (.lst (xs ++ ys)) else none := rfl
@[simp] theorem o_mulT (xs : List D) (k : Int) : oMul S (.tup xs) (.int k) = if k = 1 then some (.tup xs) else if decide (2 ≤ k) && decide (k ≤ 1000) && decide (xs.length ≤ 1000) && !xs.isEmpty then some (.tup (List.replicate k.toNat xs).flatten) else none := rfl
@[simp] theorem o_lt (i j : Int) : oLt S (.int i) (.int j) = some (.bl (decide (i < j))) := rfl
@[simp] theorem o_le (i j : Int) : oLe S (.int i) (.int j) = some (.bl (decide (i ≤ j))) := rfl
@[simp] theorem o_gt (i j : Int) : oGt S (.int i) (.int j) = some (.bl (decide (j < i))) := rfl
@[simp] theorem o_ge (i j : Int) : oGe S (.int i) (.int j) = some (.bl (decide (j ≤ i))) := rfl
@[simp] theorem o_eq (i j : Int) : oEq S (.int i) (.int j) = some (.bl (decide (i = j))) := rfl
@[simp] theorem o_ne (i j : Int) : oNe S (.int i) (.int j) = some (.bl (!decide (i = j))) := rfl
@[simp] theorem o_eqs (i j : PySem.Str) : oEq S (.str i) (.str j) = some (.bl (decide (i = j))) := rfl
@[simp] theorem o_nes (i j : PySem.Str) : oNe S (.str i) (.str j) = some (.bl (!decide (i = j))) := rfl
@[simp] theorem o_isN0 : oIsN S .non .non = some (.bl true) := rfl
@[simp] theorem o_isN1 (i : Int) : oIsN S (.int i) .non = some (.bl false) := rfl
@[simp] theorem o_isi (c : Kd) (a : D) : bIsi c S [a, .raw (.ty c.name)] = if decide (c ≠ .non) then (kdOf S a).map fun k => .bl (k.isa c) else none := by
  show (if (c.name == c.name) && decide (c ≠ .non) then _ else _) = _
  rw [beq_self_eq_true, Bool.true_and]
@[simp] theorem kd_int (i : Int) : kdOf S (.int i) = some .int := rfl
@[simp] theorem kd_bl (i : Bool) : kdOf S (.bl i) = some .bl := rfl
@[simp] theorem kd_non : kdOf S .non = some .non := rfl
@[simp] theorem kd_str (i : PySem.Str) : kdOf S (.str i) = some .str := rfl
@[simp] theorem kd_tup (i : List D) : kdOf S (.tup i) = some .tup := rfl
@[simp] theorem kd_lst (i : List D) : kdOf S (.lst i) = some .lst := rfl
@[simp] theorem kd_kst (i : List D) : kdOf S (.kst i) = some .lst := rfl
@[simp] theorem o_ixT (ds : List D) (i : Int) : oIx S (.tup ds) (.int i) = L2.atI ds i := rfl
@[simp] theorem o_ixL (ds : List D) (i : Int) : oIx S (.lst ds) (.int i) = L2.atI ds i := rfl
@[simp] theorem o_ixK (ds : List D) (i : Int) : oIx S (.kst ds) (.int i) = L2.atI ds i := rfl
@[simp] theorem o_lenT (ds : List D) : bLen S [.tup ds] = some (.int (ds.length : Nat)) := rfl
@[simp] theorem o_lenL (ds : List D) : bLen S [.lst ds] = some (.int (ds.length : Nat)) := rfl
@[simp] theorem o_lenK (ds : List D) : bLen S [.kst ds] = some (.int (ds.length : Nat)) := rfl
@[simp] theorem o_abs (i : Int) : bAbs S [.int i] = some (.int (if i < 0 then -i else i)) := rfl
@[simp] theorem o_intI (i : Int) : bInt S [.int i] = some (.int i) := rfl
@[simp] theorem o_intB (b : Bool) : bInt S [.bl b] = some (.int (if b then 1 else 0)) := rfl
@[simp] theorem o_max2 (i j : Int) : bMax2 S [.int i, .int j] = some (.int (if j > i then j else i)) := rfl
@[simp] theorem o_min2 (i j : Int) : bMin2 S [.int i, .int j] = some (.int (if j < i then j else i)) := rfl
@[simp] theorem o_dm (i j : Int) : bDm S [.int i, .int j] = if divOk i j then some (.tup [.int (i / j), .int (i % j)]) else none := rfl
@[simp] theorem o_all (ds : List D) : bAll S [.lst ds] = (blsOf ds).map fun bs => .bl (bs.all id) := rfl
@[simp] theorem o_any (ds : List D) : bAny S [.lst ds] = (blsOf ds).map fun bs => .bl (bs.any id) := rfl
@[simp] theorem o_sum (ds : List D) : bSum S [.lst ds] = (intsOf ds).map fun ns => .int ns.sum := rfl
@[simp] theorem o_tupL (ds : List D) : bTup S [.lst ds] = some (.tup ds) := rfl
@[simp] theorem o_tupT (ds : List D) : bTup S [.tup ds] = some (.tup ds) := rfl
@[simp] theorem o_slT (ds : List D) (l u : Option Int) : slD S (.tup ds) l u = some (.tup (cutD ds l u)) := rfl
@[simp] theorem o_slL (ds : List D) (l u : Option Int) : slD S (.lst ds) l u = some (.lst (cutD ds l u)) := rfl
@[simp] theorem v_lst (ds : List D) : viewLs S (.lst ds) = some ds := rfl
@[simp] theorem m_app (ds : List D) (d : D) : mApp (.lst ds) d = if ds.length < sizeLine then some (.lst (ds ++ [d])) else none := rfl
@[simp] theorem m_ext (ds es : List D) : mExt (.lst ds) (.lst es) = if ds.length + es.length ≤ sizeLine then some (.lst (ds ++ es)) else none := rfl
end
@[simp] theorem o_enT (ds : List D) : enumOf [.tup ds] = some (enumD ds) := rfl
@[simp] theorem o_enL (ds : List D) : enumOf [.lst ds] = some (enumD ds) := rfl
@[simp] theorem o_ziT (xs ys : List D) : zipD [.tup xs, .tup ys] = some (zips xs ys) := rfl
@[simp] theorem o_ziL (xs ys : List D) : zipD [.lst xs, .lst ys] = some (zips xs ys) := rfl
/-! lists -/
theorem blsOf_map {α : Type} (f : α → Bool) : ∀ l : List α, blsOf (l.map fun x => .bl (f x)) = some (l.map f)
  | [] => rfl
  | x :: l => by simp [blsOf, blsOf_map f l]
theorem intsOf_mapI {α : Type} (f : α → Int) : ∀ l : List α, intsOf (l.map fun x => .int (f x)) = some (l.map f)
  | [] => rfl
  | x :: l => by simp [intsOf, intsOf_mapI f l]
@[simp] theorem intsOf_int (l : List Int) : intsOf (l.map .int) = some l := by simpa using intsOf_mapI (fun x => x) l
theorem atI_nat {α : Type} {l : List α} {i : Nat} (h : i < l.length) : L2.atI l (i : Int) = some l[i] := by
  unfold L2.atI L2.ixN
  have : ((i : Nat) : Int) < (l.length : Nat) := by omega
  simp [this, h]
theorem atI_int {α : Type} {l : List α} {i : Int} (h0 : 0 ≤ i) (h : i.toNat < l.length) : L2.atI l i = some l[i.toNat] := by
  have e : i = (i.toNat : Int) := by omega
  have z := atI_nat h
  rw [← e] at z
  exact z
@[simp] theorem atI_0 {α : Type} (a : α) (l : List α) : L2.atI (a :: l) 0 = some a := by
  have := atI_nat (l := a :: l) (i := 0) (by simp)
  simpa using this
@[simp] theorem atI_1 {α : Type} (a b : α) (l : List α) : L2.atI (a :: b :: l) 1 = some b := by
  have := atI_nat (l := a :: b :: l) (i := 1) (by simp)
  simpa using this
@[simp] theorem atI_2 {α : Type} (a b c : α) (l : List α) : L2.atI (a :: b :: c :: l) 2 = some c := by
  have := atI_nat (l := a :: b :: c :: l) (i := 2) (by simp)
  simpa using this
@[simp] theorem atI_3 {α : Type} (a b c d : α) (l : List α) : L2.atI (a :: b :: c :: d :: l) 3 = some d := by
  have := atI_nat (l := a :: b :: c :: d :: l) (i := 3) (by simp)
  simpa using this
theorem lcL_ok {α : Type} {t : Tgt} {c : Ev Bool} {f : Ev D} {Γ : Gm} {S : Store} (g : α → D) (p : α → Bool) (h : α → D) : ∀ (l : List α), (∀ x ∈ l, (t.run (g x) Γ).elim .no (fun Γ1 => c Γ1 S) = .ok (p x) S) → (∀ x ∈ l, p x = true → (t.run (g x) Γ).elim .no (fun Γ1 => f Γ1 S) = .ok (h x) S) →
    lcL t c f Γ (l.map g) S = .ok ((l.filter p).map h) S
  | [], _, _ => rfl
  | x :: l, k, k' => by
    have h1 := k x (by simp)
    have h2 := k' x (by simp)
    have ih := lcL_ok (c := c) (f := f) g p h l (fun y hy => k y (by simp [hy])) fun y hy => k' y (by simp [hy])
    rw [List.map_cons]
    unfold lcL
    cases e : t.run (g x) Γ with
    | none => rw [e] at h1; cases h1
    | some Γ1 =>
      rw [e] at h1 h2
      simp only [Option.elim_some] at h1 h2
      simp only [h1, noEx_ok, RE.bind_ok]
      cases e2 : p x with
      | true => simp [h2 e2, ih, e2]
      | false => simp [ih, e2]
theorem lcL_all {α : Type} {t : Tgt} {f : Ev D} {Γ : Gm} {S : Store} (g : α → D) (h : α → D) : ∀ (l : List α), (∀ x ∈ l, (t.run (g x) Γ).elim .no (fun Γ1 => f Γ1 S) = .ok (h x) S) → lcL t bYes f Γ (l.map g) S = .ok (l.map h) S
  | [], _ => rfl
  | x :: l, k => by
    have h2 := k x (by simp)
    have ih := lcL_all (f := f) g h l (fun y hy => k y (by simp [hy]))
    rw [List.map_cons]
    unfold lcL
    cases e : t.run (g x) Γ with
    | none => rw [e] at h2; cases h2
    | some Γ1 =>
      rw [e] at h2
      simp only [Option.elim_some] at h2
      simp [h2, ih]
/-- a comprehension that draws: an invariant of the store -/
theorem lcL_inv {t : Tgt} {f : Ev D} {Γ : Gm} (I : Store → Prop) (P : D → Prop) : ∀ (ds : List D) (S : Store), I S → (∀ d ∈ ds, ∀ S, I S → ∃ x S', (t.run d Γ).elim .no (fun Γ1 => f Γ1 S) = .ok x S' ∧ I S' ∧ P x) →
    ∃ xs S', lcL t bYes f Γ ds S = .ok xs S' ∧ I S' ∧ xs.length = ds.length ∧ ∀ x ∈ xs, P x
  | [], S, h, _ => ⟨[], S, rfl, h, rfl, fun x hx => by cases hx⟩
  | d :: ds, S, h, k => by
    obtain ⟨x, S1, h2, h3, h4⟩ := k d (by simp) S h
    obtain ⟨xs, S2, e1, e2, e3, e4⟩ := lcL_inv I P ds S1 h3 fun d' hd => k d' (by simp [hd])
    refine ⟨x :: xs, S2, ?_, e2, by simp [e3], fun y hy => ?_⟩
    · unfold lcL
      cases e : t.run d Γ with
      | none => rw [e] at h2; cases h2
      | some Γ1 =>
        rw [e] at h2
        simp only [Option.elim_some] at h2
        simp [h2, e1]
    · rcases List.mem_cons.mp hy with rfl | hy
      · exact h4
      · exact e4 y hy
@[simp] theorem forL_nil {t : Tgt} {b : Es} {Γ : Gm} {S : Store} : forL t b [] Γ S = .nx Γ S := rfl
theorem forL_nx {t : Tgt} {b : Es} {d : D} {ds : List D} {Γ Γ1 Γ2 : Gm} {S S2 : Store} (h1 : t.run d Γ = some Γ1) (h2 : b Γ1 S = .nx Γ2 S2) : forL t b (d :: ds) Γ S = forL t b ds Γ2 S2 := by
  rw [forL]; simp only [h1, h2]
theorem forL_rt {t : Tgt} {b : Es} {d : D} {ds : List D} {Γ Γ1 : Gm} {S S2 : Store} {v : D} (h1 : t.run d Γ = some Γ1) (h2 : b Γ1 S = .rt v S2) : forL t b (d :: ds) Γ S = .rt v S2 := by
  rw [forL]; simp only [h1, h2]
theorem forL_bk {t : Tgt} {b : Es} {d : D} {ds : List D} {Γ Γ1 Γ2 : Gm} {S S2 : Store} (h1 : t.run d Γ = some Γ1) (h2 : b Γ1 S = .bk Γ2 S2) : forL t b (d :: ds) Γ S = .nx Γ2 S2 := by
  rw [forL]; simp only [h1, h2]
theorem whL_t {c : Ev Bool} {b : Es} {n : Nat} {Γ Γ2 : Gm} {S S1 S2 : Store} (h1 : c Γ S = .ok true S1) (h2 : b Γ S1 = .nx Γ2 S2) : whL c b (n + 1) Γ S = whL c b n Γ2 S2 := by
  rw [whL]; simp only [h1, h2, bindS_ok, if_true]
theorem whL_f {c : Ev Bool} {b : Es} {n : Nat} {Γ : Gm} {S S1 : Store} (h1 : c Γ S = .ok false S1) : whL c b (n + 1) Γ S = .nx Γ S1 := by
  rw [whL]; simp only [h1, bindS_ok]; rfl
/-- a for loop by an invariant -/
theorem forL_inv {t : Tgt} {body : Es} (I : Nat → Gm → Store → Prop) : ∀ (ds : List D) (n : Nat) (Γ : Gm) (S : Store), I n Γ S → (∀ i d Γ S, ds[i]? = some d → I (n + i) Γ S → ∃ Γ1 Γ2 S2, t.run d Γ = some Γ1 ∧ body Γ1 S = .nx Γ2 S2 ∧ I (n + i + 1) Γ2 S2) →
    ∃ Γ' S', forL t body ds Γ S = .nx Γ' S' ∧ I (n + ds.length) Γ' S'
  | [], n, Γ, S, h, _ => ⟨Γ, S, rfl, h⟩
  | d :: ds, n, Γ, S, h, k => by
    obtain ⟨Γ1, Γ2, S2, h1, h2, h3⟩ := k 0 d Γ S rfl h
    obtain ⟨Γ', S', e1, e2⟩ := forL_inv I ds (n + 1) Γ2 S2 h3 fun i d' Γ S hi hI => by
      have := k (i + 1) d' Γ S (by simpa using hi) (by rw [show n + (i + 1) = n + 1 + i by omega]; exact hI)
      rw [show n + (i + 1) + 1 = n + 1 + i + 1 by omega] at this
      exact this
    refine ⟨Γ', S', ?_, by rw [List.length_cons, show n + (ds.length + 1) = n + 1 + ds.length by omega]; exact e2⟩
    unfold forL
    simp [h1, h2, e1]
theorem rngD_eq (lo : Int) (n : Nat) : rngD lo n = (List.range n).map fun i => .int (lo + (i : Nat)) := rfl
theorem p62 : (2 : Int) ^ 62 = 4611686018427387904 := by decide
theorem p24 : (2 : Nat) ^ 24 = 16777216 := by decide
theorem rgOk_of {a b : Int} (h1 : 0 ≤ a) (h2 : a ≤ b) (h3 : b ≤ 1000000) : rgOk a b = true := by
  unfold rgOk
  rw [p62, p24]
  have e1 : decide (-4611686018427387904 ≤ a) = true := decide_eq_true (by omega)
  have e2 : decide (a < 4611686018427387904) = true := decide_eq_true (by omega)
  have e3 : decide (-4611686018427387904 ≤ b) = true := decide_eq_true (by omega)
  have e4 : decide (b < 4611686018427387904) = true := decide_eq_true (by omega)
  have e5 : decide ((b - a).toNat ≤ 16777216) = true := decide_eq_true (by omega)
  rw [e1, e2, e3, e4, e5]
  rfl
end DL
set_option Elab.async false
set_option linter.all false
set_option maxRecDepth 100000
set_option maxHeartbeats 4000000
namespace K76
open PySem PySem.Spec PyProof.Rows L2 DL
def top (i : Nat) : Stmt := PySem.Challenge.pw_settledhands_k76_whole_courses.main.body.getD i (.Pass ⟨0, 0, 0, 0⟩)
abbrev s_is_integer : Stmt := top 11
def d_is_integer : He.DefD := ⟨("is_integer", none), "is_integer", "is_integer", defArgs s_is_integer, defBody s_is_integer, defScope s_is_integer, [], []⟩
abbrev s_is_count : Stmt := top 12
def d_is_count : He.DefD := ⟨("is_count", none), "is_count", "is_count", defArgs s_is_count, defBody s_is_count, defScope s_is_count, [], []⟩
abbrev s_want_at_most : Stmt := top 13
def d_want_at_most : He.DefD := ⟨("want_at_most", none), "want_at_most", "want_at_most", defArgs s_want_at_most, defBody s_want_at_most, defScope s_want_at_most, [], []⟩
abbrev s_is_move_of : Stmt := top 19
def d_is_move_of : He.DefD := ⟨("is_move_of", none), "is_move_of", "is_move_of", defArgs s_is_move_of, defBody s_is_move_of, defScope s_is_move_of, [], []⟩
abbrev s_are_place_moves : Stmt := top 20
def d_are_place_moves : He.DefD := ⟨("are_place_moves", none), "are_place_moves", "are_place_moves", defArgs s_are_place_moves, defBody s_are_place_moves, defScope s_are_place_moves, [], []⟩
abbrev s_are_owners_of : Stmt := top 21
def d_are_owners_of : He.DefD := ⟨("are_owners_of", none), "are_owners_of", "are_owners_of", defArgs s_are_owners_of, defBody s_are_owners_of, defScope s_are_owners_of, [], []⟩
abbrev s_is_plant_of : Stmt := top 22
def d_is_plant_of : He.DefD := ⟨("is_plant_of", none), "is_plant_of", "is_plant_of", defArgs s_is_plant_of, defBody s_is_plant_of, defScope s_is_plant_of, [], []⟩
abbrev s_is_any_plant : Stmt := top 23
def d_is_any_plant : He.DefD := ⟨("is_any_plant", none), "is_any_plant", "is_any_plant", defArgs s_is_any_plant, defBody s_is_any_plant, defScope s_is_any_plant, [], []⟩
abbrev s_want_plant : Stmt := top 24
def d_want_plant : He.DefD := ⟨("want_plant", none), "want_plant", "want_plant", defArgs s_want_plant, defBody s_want_plant, defScope s_want_plant, [], []⟩
abbrev s_moves_of : Stmt := top 25
def d_moves_of : He.DefD := ⟨("moves_of", none), "moves_of", "moves_of", defArgs s_moves_of, defBody s_moves_of, defScope s_moves_of, [], []⟩
abbrev s_numbers_of : Stmt := top 26
def d_numbers_of : He.DefD := ⟨("numbers_of", none), "numbers_of", "numbers_of", defArgs s_numbers_of, defBody s_numbers_of, defScope s_numbers_of, [], []⟩
abbrev s_is_taken : Stmt := top 30
def d_is_taken : He.DefD := ⟨("is_taken", none), "is_taken", "is_taken", defArgs s_is_taken, defBody s_is_taken, defScope s_is_taken, [], []⟩
abbrev s_are_taken : Stmt := top 31
def d_are_taken : He.DefD := ⟨("are_taken", none), "are_taken", "are_taken", defArgs s_are_taken, defBody s_are_taken, defScope s_are_taken, [], []⟩
abbrev s_are_next : Stmt := top 32
def d_are_next : He.DefD := ⟨("are_next", none), "are_next", "are_next", defArgs s_are_next, defBody s_are_next, defScope s_are_next, [], []⟩
abbrev s_is_machine_of : Stmt := top 33
def d_is_machine_of : He.DefD := ⟨("is_machine_of", none), "is_machine_of", "is_machine_of", defArgs s_is_machine_of, defBody s_is_machine_of, defScope s_is_machine_of, [], []⟩
abbrev s_is_hand_of : Stmt := top 34
def d_is_hand_of : He.DefD := ⟨("is_hand_of", none), "is_hand_of", "is_hand_of", defArgs s_is_hand_of, defBody s_is_hand_of, defScope s_is_hand_of, [], []⟩
abbrev s_is_weather_of : Stmt := top 35
def d_is_weather_of : He.DefD := ⟨("is_weather_of", none), "is_weather_of", "is_weather_of", defArgs s_is_weather_of, defBody s_is_weather_of, defScope s_is_weather_of, [], []⟩
abbrev s_want_hand : Stmt := top 36
def d_want_hand : He.DefD := ⟨("want_hand", none), "want_hand", "want_hand", defArgs s_want_hand, defBody s_want_hand, defScope s_want_hand, [], []⟩
abbrev s_want_weather : Stmt := top 37
def d_want_weather : He.DefD := ⟨("want_weather", none), "want_weather", "want_weather", defArgs s_want_weather, defBody s_want_weather, defScope s_want_weather, [], []⟩
abbrev s_numbers_along : Stmt := top 38
def d_numbers_along : He.DefD := ⟨("numbers_along", none), "numbers_along", "numbers_along", defArgs s_numbers_along, defBody s_numbers_along, defScope s_numbers_along, [], []⟩
abbrev s_want_machines : Stmt := top 42
def d_want_machines : He.DefD := ⟨("want_machines", none), "want_machines", "want_machines", defArgs s_want_machines, defBody s_want_machines, defScope s_want_machines, [], []⟩
abbrev s_want_many : Stmt := top 43
def d_want_many : He.DefD := ⟨("want_many", none), "want_many", "want_many", defArgs s_want_many, defBody s_want_many, defScope s_want_many, [], []⟩
abbrev s_move_at : Stmt := top 44
def d_move_at : He.DefD := ⟨("move_at", none), "move_at", "move_at", defArgs s_move_at, defBody s_move_at, defScope s_move_at, [], []⟩
abbrev s_course_of : Stmt := top 45
def d_course_of : He.DefD := ⟨("course_of", none), "course_of", "course_of", defArgs s_course_of, defBody s_course_of, defScope s_course_of, [], []⟩
abbrev s_at_course : Stmt := top 46
def d_at_course : He.DefD := ⟨("at_course", none), "at_course", "at_course", defArgs s_at_course, defBody s_at_course, defScope s_at_course, [], []⟩
abbrev s_sum_along : Stmt := top 47
def d_sum_along : He.DefD := ⟨("sum_along", none), "sum_along", "sum_along", defArgs s_sum_along, defBody s_sum_along, defScope s_sum_along, [], []⟩
abbrev s_course : Stmt := top 48
def d_course : He.DefD := ⟨("course", none), "course", "course", defArgs s_course, defBody s_course, defScope s_course, [], []⟩
abbrev s_place_behind : Stmt := top 49
def d_place_behind : He.DefD := ⟨("place_behind", none), "place_behind", "place_behind", defArgs s_place_behind, defBody s_place_behind, defScope s_place_behind, [], []⟩
abbrev s_letter_at : Stmt := top 50
def d_letter_at : He.DefD := ⟨("letter_at", none), "letter_at", "letter_at", defArgs s_letter_at, defBody s_letter_at, defScope s_letter_at, [], []⟩
abbrev s_counted : Stmt := top 51
def d_counted : He.DefD := ⟨("counted", none), "counted", "counted", defArgs s_counted, defBody s_counted, defScope s_counted, [], []⟩
abbrev s__law_pot : Stmt := top 53
def d__law_pot : He.DefD := ⟨("_law_pot", none), "_law_pot", "_law_pot", defArgs s__law_pot, defBody s__law_pot, defScope s__law_pot, [], []⟩
abbrev s__law_draw : Stmt := top 54
def d__law_draw : He.DefD := ⟨("_law_draw", none), "_law_draw", "_law_draw", defArgs s__law_draw, defBody s__law_draw, defScope s__law_draw, [], []⟩
abbrev s__law_pick : Stmt := top 55
def d__law_pick : He.DefD := ⟨("_law_pick", none), "_law_pick", "_law_pick", defArgs s__law_pick, defBody s__law_pick, defScope s__law_pick, [], []⟩
abbrev s__law_moves : Stmt := top 56
def d__law_moves : He.DefD := ⟨("_law_moves", none), "_law_moves", "_law_moves", defArgs s__law_moves, defBody s__law_moves, defScope s__law_moves, [], []⟩
abbrev s__law_plant : Stmt := top 57
def d__law_plant : He.DefD := ⟨("_law_plant", none), "_law_plant", "_law_plant", defArgs s__law_plant, defBody s__law_plant, defScope s__law_plant, [], []⟩
abbrev s__law_machine : Stmt := top 58
def d__law_machine : He.DefD := ⟨("_law_machine", none), "_law_machine", "_law_machine", defArgs s__law_machine, defBody s__law_machine, defScope s__law_machine, [], []⟩
abbrev s__law_play : Stmt := top 59
def d__law_play : He.DefD := ⟨("_law_play", none), "_law_play", "_law_play", defArgs s__law_play, defBody s__law_play, defScope s__law_play, [], []⟩
abbrev s__law_late : Stmt := top 60
def d__law_late : He.DefD := ⟨("_law_late", none), "_law_late", "_law_late", defArgs s__law_late, defBody s__law_late, defScope s__law_late, [], []⟩
abbrev s__law_sum : Stmt := top 61
def d__law_sum : He.DefD := ⟨("_law_sum", none), "_law_sum", "_law_sum", defArgs s__law_sum, defBody s__law_sum, defScope s__law_sum, [], []⟩
abbrev s__law_ring : Stmt := top 62
def d__law_ring : He.DefD := ⟨("_law_ring", none), "_law_ring", "_law_ring", defArgs s__law_ring, defBody s__law_ring, defScope s__law_ring, [], []⟩
abbrev s__law_great : Stmt := top 63
def d__law_great : He.DefD := ⟨("_law_great", none), "_law_great", "_law_great", defArgs s__law_great, defBody s__law_great, defScope s__law_great, [], []⟩
abbrev s__law_course_right : Stmt := top 64
def d__law_course_right : He.DefD := ⟨("_law_course_right", none), "_law_course_right", "_law_course_right", defArgs s__law_course_right, defBody s__law_course_right, defScope s__law_course_right, [], []⟩
abbrev s__law_counter : Stmt := top 65
def d__law_counter : He.DefD := ⟨("_law_counter", none), "_law_counter", "_law_counter", defArgs s__law_counter, defBody s__law_counter, defScope s__law_counter, [], []⟩
abbrev s__law_gcd : Stmt := top 66
def d__law_gcd : He.DefD := ⟨("_law_gcd", none), "_law_gcd", "_law_gcd", defArgs s__law_gcd, defBody s__law_gcd, defScope s__law_gcd, [], []⟩
abbrev s__law_counters_right : Stmt := top 67
def d__law_counters_right : He.DefD := ⟨("_law_counters_right", none), "_law_counters_right", "_law_counters_right", defArgs s__law_counters_right, defBody s__law_counters_right, defScope s__law_counters_right, [], []⟩
abbrev s_law : Stmt := top 68
def d_law : He.DefD := ⟨("law", none), "law", "law", defArgs s_law, defBody s_law, defScope s_law, [], []⟩
def clsB (st : Stmt) : List Stmt := match st with | .ClassDef (body := b) .. => b | _ => []
abbrev sI_TooMany : Stmt := (clsB (top 8)).getD 0 (.Pass ⟨0, 0, 0, 0⟩)
def dI_TooMany : He.DefD := ⟨("TooMany", some "__init__"), "__init__", "TooMany.__init__", defArgs sI_TooMany, defBody sI_TooMany, defScope sI_TooMany, [], []⟩
def ex (K : PySem.W.Frag) : Bool := oexAB K (He.ga K "TooMany") && (exFB K (He.ga K "TooMany") && (decide (PySem.W.exmOne K (.ref (He.ga K "TooMany")) (.ref (He.ga K "TooMany")) = some true) && (decide (PySem.W.findIn K (.ref (He.ga K "TooMany")) "__init__" = some (some (.ref (He.fAd K ("TooMany", some "__init__"))))) && (decide (PySem.W.typeIn K (.ref (He.fAd K ("TooMany", some "__init__"))) = some (.type "function")) && (decide (PySem.W.findIn K (.ref (He.ga K "TooMany")) "what" = some none) && (decide (PySem.W.findIn K (.ref (He.ga K "TooMany")) "limit" = some none) && (decide (PySem.W.kitOne K (.ref (He.ga K "TooMany")) (.ref (He.ga K "LimitError")) = some true) && (true))))))))
def fn : List He.DefD := [d_is_integer, d_is_count, d_want_at_most, d_is_move_of, d_are_place_moves, d_are_owners_of, d_is_plant_of, d_is_any_plant, d_want_plant, d_moves_of, d_numbers_of, d_is_taken, d_are_taken, d_are_next, d_is_machine_of, d_is_hand_of, d_is_weather_of, d_want_hand, d_want_weather, d_numbers_along, d_want_machines, d_want_many, d_move_at, d_course_of, d_at_course, d_sum_along, d_course, d_place_behind, d_letter_at, d_counted, d__law_pot, d__law_draw, d__law_pick, d__law_moves, d__law_plant, d__law_machine, d__law_play, d__law_late, d__law_sum, d__law_ring, d__law_great, d__law_course_right, d__law_counter, d__law_gcd, d__law_counters_right, d_law, dI_TooMany]
def fa : List He.Fa := ([.free "isinstance", .free "int", .free "bool", .glo "TooMany", .free "tuple", .free "len", .int "MOST_PLACE_MOVES" 24, .free "all", .free "zip", .int "MOST_PLANT_PLACES" 24, .free "str", .str "PLANT_WORD" "plant", .free "sum", .int "MOST_PLANT_MOVES" 200, .int "MOST_LETTERS" 4, .free "enumerate", .free "list", .free "range", .int "MOST_MEMORIES" 60, .int "MOST_WEATHER_MEMORIES" 400, .int "MOST_MANY" 1000000000000000000000000000000, .int "MOST_TRIPLES" 2400, .free "divmod", .free "abs", .free "max", .free "sorted", .free "set", .free "repr", .glo "LimitError", .glo "is_integer"] : List He.Fa) ++ ([.glo "is_count", .glo "want_at_most", .glo "is_move_of", .glo "are_place_moves", .glo "are_owners_of", .glo "is_plant_of", .glo "is_any_plant", .glo "want_plant", .glo "moves_of", .glo "numbers_of", .glo "is_taken", .glo "are_taken", .glo "are_next", .glo "is_machine_of", .glo "is_hand_of", .glo "is_weather_of", .glo "want_hand", .glo "want_weather", .glo "numbers_along", .glo "want_machines", .glo "want_many", .glo "move_at", .glo "course_of", .glo "at_course", .glo "sum_along", .glo "course", .glo "place_behind", .glo "letter_at", .glo "counted", .glo "_law_pot"] : List He.Fa) ++ ([.glo "_law_draw", .glo "_law_pick", .glo "_law_moves", .glo "_law_plant", .glo "_law_machine", .glo "_law_play", .glo "_law_late", .glo "_law_sum", .glo "_law_ring", .glo "_law_great", .glo "_law_course_right", .glo "_law_counter", .glo "_law_gcd", .glo "_law_counters_right", .glo "law"] : List He.Fa)
abbrev C (K : PySem.W.Frag) (mg : PySem.Str → Option Value) (base : Heap) : Prop := Cn fa fn ex K mg base
theorem _root_.DL.Cn.t_TooMany {K : PySem.W.Frag} {mg : PySem.Str → Option Value} {base : Heap} (c : C K mg base) : OexA K (He.ga K "TooMany") := by
  have h := c.more
  unfold ex at h
  replace h := (Bool.and_eq_true_iff.mp h).1
  exact oexA_of h
theorem _root_.DL.Cn.e_TooMany {K : PySem.W.Frag} {mg : PySem.Str → Option Value} {base : Heap} (c : C K mg base) : ExF K (He.ga K "TooMany") := by
  have h := c.more
  unfold ex at h
  replace h := (Bool.and_eq_true_iff.mp h).2
  replace h := (Bool.and_eq_true_iff.mp h).1
  exact exF_of h
theorem _root_.DL.Cn.x_TooMany {K : PySem.W.Frag} {mg : PySem.Str → Option Value} {base : Heap} (c : C K mg base) : PySem.W.exmOne K (.ref (He.ga K "TooMany")) (.ref (He.ga K "TooMany")) = some true := by
  have h := c.more
  unfold ex at h
  replace h := (Bool.and_eq_true_iff.mp h).2
  replace h := (Bool.and_eq_true_iff.mp h).2
  replace h := (Bool.and_eq_true_iff.mp h).1
  exact of_decide_eq_true h
theorem _root_.DL.Cn.i_TooMany {K : PySem.W.Frag} {mg : PySem.Str → Option Value} {base : Heap} (c : C K mg base) : PySem.W.findIn K (.ref (He.ga K "TooMany")) "__init__" = some (some (.ref (He.fAd K ("TooMany", some "__init__")))) := by
  have h := c.more
  unfold ex at h
  replace h := (Bool.and_eq_true_iff.mp h).2
  replace h := (Bool.and_eq_true_iff.mp h).2
  replace h := (Bool.and_eq_true_iff.mp h).2
  replace h := (Bool.and_eq_true_iff.mp h).1
  exact of_decide_eq_true h
theorem _root_.DL.Cn.f_TooMany {K : PySem.W.Frag} {mg : PySem.Str → Option Value} {base : Heap} (c : C K mg base) : PySem.W.typeIn K (.ref (He.fAd K ("TooMany", some "__init__"))) = some (.type "function") := by
  have h := c.more
  unfold ex at h
  replace h := (Bool.and_eq_true_iff.mp h).2
  replace h := (Bool.and_eq_true_iff.mp h).2
  replace h := (Bool.and_eq_true_iff.mp h).2
  replace h := (Bool.and_eq_true_iff.mp h).2
  replace h := (Bool.and_eq_true_iff.mp h).1
  exact of_decide_eq_true h
theorem _root_.DL.Cn.n_TooMany_what {K : PySem.W.Frag} {mg : PySem.Str → Option Value} {base : Heap} (c : C K mg base) : PySem.W.findIn K (.ref (He.ga K "TooMany")) "what" = some none := by
  have h := c.more
  unfold ex at h
  replace h := (Bool.and_eq_true_iff.mp h).2
  replace h := (Bool.and_eq_true_iff.mp h).2
  replace h := (Bool.and_eq_true_iff.mp h).2
  replace h := (Bool.and_eq_true_iff.mp h).2
  replace h := (Bool.and_eq_true_iff.mp h).2
  replace h := (Bool.and_eq_true_iff.mp h).1
  exact of_decide_eq_true h
theorem _root_.DL.Cn.n_TooMany_limit {K : PySem.W.Frag} {mg : PySem.Str → Option Value} {base : Heap} (c : C K mg base) : PySem.W.findIn K (.ref (He.ga K "TooMany")) "limit" = some none := by
  have h := c.more
  unfold ex at h
  replace h := (Bool.and_eq_true_iff.mp h).2
  replace h := (Bool.and_eq_true_iff.mp h).2
  replace h := (Bool.and_eq_true_iff.mp h).2
  replace h := (Bool.and_eq_true_iff.mp h).2
  replace h := (Bool.and_eq_true_iff.mp h).2
  replace h := (Bool.and_eq_true_iff.mp h).2
  replace h := (Bool.and_eq_true_iff.mp h).1
  exact of_decide_eq_true h
theorem _root_.DL.Cn.k_TooMany_LimitError {K : PySem.W.Frag} {mg : PySem.Str → Option Value} {base : Heap} (c : C K mg base) : PySem.W.kitOne K (.ref (He.ga K "TooMany")) (.ref (He.ga K "LimitError")) = some true := by
  have h := c.more
  unfold ex at h
  replace h := (Bool.and_eq_true_iff.mp h).2
  replace h := (Bool.and_eq_true_iff.mp h).2
  replace h := (Bool.and_eq_true_iff.mp h).2
  replace h := (Bool.and_eq_true_iff.mp h).2
  replace h := (Bool.and_eq_true_iff.mp h).2
  replace h := (Bool.and_eq_true_iff.mp h).2
  replace h := (Bool.and_eq_true_iff.mp h).2
  replace h := (Bool.and_eq_true_iff.mp h).1
  exact of_decide_eq_true h
theorem scI_TooMany : FnScope ["self", "what", "limit"] ["self", "what", "limit"] dI_TooMany.scope := ⟨rfl, rfl, rfl, by decide +kernel, rfl, by decide +kernel, by decide +kernel⟩
theorem okI_TooMany {P : Program} {w : World} {K : PySem.W.Frag} {mg : PySem.Str → Option Value} {base : Heap} (c : C K mg base) : FnOk P w K mg base (fun _ _ _ _ _ _ => False) 1 (He.fAd K dI_TooMany.at_) (c.says.def_ 46 (d := dI_TooMany) rfl).choose ["self", "what", "limit"] (spI2 (He.ga K "TooMany") "what" "limit") :=
  FunD.ok (c.says.def_ 46 (d := dI_TooMany) rfl).choose_spec scI_TooMany (fun vs H Q E h => by obtain ⟨a, v, w, rfl, _⟩ := h; rfl) fun cdv A outer s H vs Q E hr h =>
    ⟨_, PSs.nox (pss_cons (ps_ostA (pe_var (i := 0) rfl (Or.inl rfl)) (pe_var (i := 1) rfl (Or.inl rfl))) (pss_one (ps_ostA (pe_var (i := 0) rfl (Or.inl rfl)) (pe_var (i := 2) rfl (Or.inl rfl))))), pure_i2 c.t_TooMany c.n_TooMany_what c.n_TooMany_limit vs H Q E h⟩
theorem bI_TooMany {K : PySem.W.Frag} {mg : PySem.Str → Option Value} {base : Heap} (c : C K mg base) : L2.Binds K (c.says.def_ 46 (d := dI_TooMany) rfl).choose ["self", "what", "limit"] [] :=
  (c.says.def_ 46 (d := dI_TooMany) rfl).choose_spec.bindsN fun _ _ _ _ _ _ us hl => match us, hl with | [_, _, _], _ => rfl
theorem bp_is_integer : BindsP d_is_integer ["value"] := fun _ _ _ _ _ _ us hl => match us, hl with | [_], _ => rfl
theorem bp_is_count : BindsP d_is_count ["value"] := fun _ _ _ _ _ _ us hl => match us, hl with | [_], _ => rfl
theorem bp_want_at_most : BindsP d_want_at_most ["what", "limit", "number"] := fun _ _ _ _ _ _ us hl => match us, hl with | [_, _, _], _ => rfl
theorem bp_is_move_of : BindsP d_is_move_of ["letters", "places", "value"] := fun _ _ _ _ _ _ us hl => match us, hl with | [_, _, _], _ => rfl
theorem bp_are_place_moves : BindsP d_are_place_moves ["letters", "places", "value"] := fun _ _ _ _ _ _ us hl => match us, hl with | [_, _, _], _ => rfl
theorem bp_are_owners_of : BindsP d_are_owners_of ["value"] := fun _ _ _ _ _ _ us hl => match us, hl with | [_], _ => rfl
theorem bp_is_plant_of : BindsP d_is_plant_of ["letters", "value"] := fun _ _ _ _ _ _ us hl => match us, hl with | [_, _], _ => rfl
theorem bp_is_any_plant : BindsP d_is_any_plant ["value"] := fun _ _ _ _ _ _ us hl => match us, hl with | [_], _ => rfl
theorem bp_want_plant : BindsP d_want_plant ["value"] := fun _ _ _ _ _ _ us hl => match us, hl with | [_], _ => rfl
theorem bp_moves_of : BindsP d_moves_of ["plant"] := fun _ _ _ _ _ _ us hl => match us, hl with | [_], _ => rfl
theorem bp_numbers_of : BindsP d_numbers_of ["plant"] := fun _ _ _ _ _ _ us hl => match us, hl with | [_], _ => rfl
theorem bp_is_taken : BindsP d_is_taken ["plant", "side", "place", "value"] := fun _ _ _ _ _ _ us hl => match us, hl with | [_, _, _, _], _ => rfl
theorem bp_are_taken : BindsP d_are_taken ["plant", "side", "value"] := fun _ _ _ _ _ _ us hl => match us, hl with | [_, _, _], _ => rfl
theorem bp_are_next : BindsP d_are_next ["moves", "many", "value"] := fun _ _ _ _ _ _ us hl => match us, hl with | [_, _, _], _ => rfl
theorem bp_is_machine_of : BindsP d_is_machine_of ["plant", "word", "side", "most", "value"] := fun _ _ _ _ _ _ us hl => match us, hl with | [_, _, _, _, _], _ => rfl
theorem bp_is_hand_of : BindsP d_is_hand_of ["plant", "value"] := fun _ _ _ _ _ _ us hl => match us, hl with | [_, _], _ => rfl
theorem bp_is_weather_of : BindsP d_is_weather_of ["plant", "value"] := fun _ _ _ _ _ _ us hl => match us, hl with | [_, _], _ => rfl
theorem bp_want_hand : BindsP d_want_hand ["plant", "value"] := fun _ _ _ _ _ _ us hl => match us, hl with | [_, _], _ => rfl
theorem bp_want_weather : BindsP d_want_weather ["plant", "value"] := fun _ _ _ _ _ _ us hl => match us, hl with | [_, _], _ => rfl
theorem bp_numbers_along : BindsP d_numbers_along ["plant", "numbers", "side", "machine", "place", "memory"] := fun _ _ _ _ _ _ us hl => match us, hl with | [_, _, _, _, _, _], _ => rfl
theorem bp_want_machines : BindsP d_want_machines ["plant", "hand", "weather"] := fun _ _ _ _ _ _ us hl => match us, hl with | [_, _, _], _ => rfl
theorem bp_want_many : BindsP d_want_many ["value"] := fun _ _ _ _ _ _ us hl => match us, hl with | [_], _ => rfl
theorem bp_move_at : BindsP d_move_at ["plant", "numbers", "hand", "weather", "triple"] := fun _ _ _ _ _ _ us hl => match us, hl with | [_, _, _, _, _], _ => rfl
theorem bp_course_of : BindsP d_course_of ["plant", "hand", "weather"] := fun _ _ _ _ _ _ us hl => match us, hl with | [_, _, _], _ => rfl
theorem bp_at_course : BindsP d_at_course ["told", "at"] := fun _ _ _ _ _ _ us hl => match us, hl with | [_, _], _ => rfl
theorem bp_sum_along : BindsP d_sum_along ["told", "many"] := fun _ _ _ _ _ _ us hl => match us, hl with | [_, _], _ => rfl
theorem bp_course : BindsP d_course ["plant", "hand", "weather"] := fun _ _ _ _ _ _ us hl => match us, hl with | [_, _, _], _ => rfl
theorem bp_place_behind : BindsP d_place_behind ["plant", "hand", "weather", "many"] := fun _ _ _ _ _ _ us hl => match us, hl with | [_, _, _, _], _ => rfl
theorem bp_letter_at : BindsP d_letter_at ["plant", "hand", "weather", "at"] := fun _ _ _ _ _ _ us hl => match us, hl with | [_, _, _, _], _ => rfl
theorem bp_counted : BindsP d_counted ["plant", "hand", "weather", "letter", "many"] := fun _ _ _ _ _ _ us hl => match us, hl with | [_, _, _, _, _], _ => rfl
theorem bp__law_pot : BindsP d__law_pot ["script", "k"] := fun _ _ _ _ _ _ us hl => match us, hl with | [_, _], _ => rfl
theorem bp__law_draw : BindsP d__law_draw ["pot", "many"] := fun _ _ _ _ _ _ us hl => match us, hl with | [_, _], _ => rfl
theorem bp__law_pick : BindsP d__law_pick ["pot", "some"] := fun _ _ _ _ _ _ us hl => match us, hl with | [_, _], _ => rfl
theorem bp__law_moves : BindsP d__law_moves ["plant"] := fun _ _ _ _ _ _ us hl => match us, hl with | [_], _ => rfl
theorem bp__law_plant : BindsP d__law_plant ["pot", "letters", "places"] := fun _ _ _ _ _ _ us hl => match us, hl with | [_, _, _], _ => rfl
theorem bp__law_machine : BindsP d__law_machine ["pot", "plant", "side", "memories"] := fun _ _ _ _ _ _ us hl => match us, hl with | [_, _, _, _], _ => rfl
theorem bp__law_play : BindsP d__law_play ["plant", "hand", "weather", "many"] := fun _ _ _ _ _ _ us hl => match us, hl with | [_, _, _, _], _ => rfl
theorem bp__law_late : BindsP d__law_late ["row", "begin", "size", "at"] := fun _ _ _ _ _ _ us hl => match us, hl with | [_, _, _, _], _ => rfl
theorem bp__law_sum : BindsP d__law_sum ["row", "begin", "size", "many"] := fun _ _ _ _ _ _ us hl => match us, hl with | [_, _, _, _], _ => rfl
theorem bp__law_ring : BindsP d__law_ring ["stands"] := fun _ _ _ _ _ _ us hl => match us, hl with | [_], _ => rfl
theorem bp__law_great : BindsP d__law_great ["pot"] := fun _ _ _ _ _ _ us hl => match us, hl with | [_], _ => rfl
theorem bp__law_course_right : BindsP d__law_course_right ["pot", "plant", "hand", "weather", "most"] := fun _ _ _ _ _ _ us hl => match us, hl with | [_, _, _, _, _], _ => rfl
theorem bp__law_counter : BindsP d__law_counter ["word", "takes", "first", "size"] := fun _ _ _ _ _ _ us hl => match us, hl with | [_, _, _, _], _ => rfl
theorem bp__law_gcd : BindsP d__law_gcd ["one", "other"] := fun _ _ _ _ _ _ us hl => match us, hl with | [_, _], _ => rfl
theorem bp__law_counters_right : BindsP d__law_counters_right ["pot"] := fun _ _ _ _ _ _ us hl => match us, hl with | [_], _ => rfl
theorem bp_law : BindsP d_law ["script"] := fun _ _ _ _ _ _ us hl => match us, hl with | [_], _ => rfl
theorem bk_counted_43210 : BindsK d_counted ["plant", "hand", "weather", "letter", "many"] ["many", "letter", "weather", "hand", "plant"] [4, 3, 2, 1, 0] := fun _ _ _ _ _ _ ws hl => match ws, hl with | [_, _, _, _, _], _ => ⟨rfl, rfl⟩
theorem bk_course_210 : BindsK d_course ["plant", "hand", "weather"] ["weather", "hand", "plant"] [2, 1, 0] := fun _ _ _ _ _ _ ws hl => match ws, hl with | [_, _, _], _ => ⟨rfl, rfl⟩
theorem bk_letter_at_3210 : BindsK d_letter_at ["plant", "hand", "weather", "at"] ["at", "weather", "hand", "plant"] [3, 2, 1, 0] := fun _ _ _ _ _ _ ws hl => match ws, hl with | [_, _, _, _], _ => ⟨rfl, rfl⟩
theorem bk_place_behind_3210 : BindsK d_place_behind ["plant", "hand", "weather", "many"] ["many", "weather", "hand", "plant"] [3, 2, 1, 0] := fun _ _ _ _ _ _ ws hl => match ws, hl with | [_, _, _, _], _ => ⟨rfl, rfl⟩
theorem sc_is_integer : FnScope ["value"] ["value"] d_is_integer.scope := ⟨rfl, rfl, rfl, by decide +kernel, rfl, by decide +kernel, by decide +kernel⟩
def g_is_integer : Es := sRt (eAnd (eFn (bIsi .int) (aCons (eVb 0) (aCons (eTy .int) (aNil)))) (eNot (eFn (bIsi .bl) (aCons (eVb 0) (aCons (eTy .bl) (aNil))))))
def F_is_integer : Fn := fnOf 1 g_is_integer
theorem ok_is_integer {P : Program} {w : World} {K : PySem.W.Frag} {mg : PySem.Str → Option Value} {base : Heap} (c : C K mg base) : OkD P w K mg base d_is_integer ["value"] 1 F_is_integer :=
  OkD.mk (N := ["value"]) (f := He.ga K "is_integer") (fd := (c.says.def_ 0 (d := d_is_integer) rfl).choose) (g := g_is_integer) (c.glo 29 rfl) (c.says.def_ 0 (d := d_is_integer) rfl).choose_spec sc_is_integer fun cdv A outer s H E B hr hgd =>
    have hu0 := hr.units0; have hu := hr.units; have hu1 := u1_of hr; have hu65 := u65_of hr
    dss_one (ds_ret (de_and (de_bi call_isi (cb_isi .int) rfl (c.free 0 rfl) bo_isinstance (dab_cons (db_v 0) (dab_cons (db_ty .int rfl (c.free 1 rfl) bo_int) (dab_nil)))) (de_one (de_not (de_bi call_isi (cb_isi .bl) rfl (c.free 0 rfl) bo_isinstance (dab_cons (db_v 0) (dab_cons (db_ty .bl rfl (c.free 2 rfl) bo_bool) (dab_nil))))))))
theorem sc_is_count : FnScope ["value"] ["value"] d_is_count.scope := ⟨rfl, rfl, rfl, by decide +kernel, rfl, by decide +kernel, by decide +kernel⟩
def g_is_count : Es := sRt (eAnd (eCall F_is_integer (aCons (eV 0) (aNil))) (eBin2 oGe (eVb 0) (eC (.int 0))))
def F_is_count : Fn := fnOf 1 g_is_count
theorem ok_is_count {P : Program} {w : World} {K : PySem.W.Frag} {mg : PySem.Str → Option Value} {base : Heap} (c : C K mg base) : OkD P w K mg base d_is_count ["value"] 2 F_is_count :=
  OkD.mk (N := ["value"]) (f := He.ga K "is_count") (fd := (c.says.def_ 1 (d := d_is_count) rfl).choose) (g := g_is_count) (c.glo 30 rfl) (c.says.def_ 1 (d := d_is_count) rfl).choose_spec sc_is_count fun cdv A outer s H E B hr hgd =>
    have hu0 := hr.units0; have hu := hr.units; have hu1 := u1_of hr; have hu65 := u65_of hr
    dss_one (ds_ret (de_and (de_call (ok_is_integer c) bp_is_integer (hr.mono (by decide)) hgd (takes_of rfl rfl rfl rfl) (da_cons (de_v 0) (da_nil)) (ALen.cons (ALen.nil)) rfl) (de_one (de_cmp2 op_ge opb_ge (db_v 0) (db_of (de_int))))))
theorem sc_want_at_most : FnScope ["what", "limit", "number"] ["what", "limit", "number"] d_want_at_most.scope := ⟨rfl, rfl, rfl, by decide +kernel, rfl, by decide +kernel, by decide +kernel⟩
def g_want_at_most : Es := sIf (toB (eBin2 oGt (eVb 2) (eVb 1))) (sRaise2 "TooMany" "what" "limit" (aCons (eV 0) (aCons (eV 1) (aNil)))) (sNx)
def F_want_at_most : Fn := fnOf 3 g_want_at_most
theorem ok_want_at_most {P : Program} {w : World} {K : PySem.W.Frag} {mg : PySem.Str → Option Value} {base : Heap} (c : C K mg base) : OkD P w K mg base d_want_at_most ["what", "limit", "number"] 3 F_want_at_most :=
  OkD.mk (N := ["what", "limit", "number"]) (f := He.ga K "want_at_most") (fd := (c.says.def_ 2 (d := d_want_at_most) rfl).choose) (g := g_want_at_most) (c.glo 31 rfl) (c.says.def_ 2 (d := d_want_at_most) rfl).choose_spec sc_want_at_most fun cdv A outer s H E B hr hgd =>
    have hu0 := hr.units0; have hu := hr.units; have hu1 := u1_of hr; have hu65 := u65_of hr
    dss_one (ds_if (dt_cmp2 op_gt opb_gt (db_v 2) (db_v 1)) (dss_one (ds_raise2 rfl (takes_of rfl rfl rfl rfl) (c.t_TooMany) (c.i_TooMany) (c.f_TooMany) (okI_TooMany c) (hr.mono (by decide)) (bI_TooMany c) rfl (c.glo 3 rfl) (da_cons (de_v 0) (da_cons (de_v 1) (da_nil))))) (dss_nil))
theorem sc_is_move_of : FnScope ["letters", "places", "value"] ["letters", "places", "value"] d_is_move_of.scope := ⟨rfl, rfl, rfl, by decide +kernel, rfl, by decide +kernel, by decide +kernel⟩
def g_is_move_of : Es := sSeq (sIf (bOr (bNot (toB (eFn (bIsi .tup) (aCons (eVb 2) (aCons (eTy .tup) (aNil)))))) (bOr (toB (eBin2 oNe (eFn bLen (aCons (eVb 2) (aNil))) (eC (.int 2)))) (bOr (bNot (toB (eCall F_is_count (aCons (eBin2 oIx (eVb 2) (eC (.int 0))) (aNil))))) (bNot (toB (eCall F_is_count (aCons (eBin2 oIx (eVb 2) (eC (.int 1))) (aNil)))))))) (sRt (eC (.bl false))) (sNx)) (sRt (eAnd (eBin2 oLt (eBin2 oIx (eVb 2) (eC (.int 0))) (eVb 0)) (eBin2 oLt (eBin2 oIx (eVb 2) (eC (.int 1))) (eVb 1))))
def F_is_move_of : Fn := fnOf 3 g_is_move_of
theorem ok_is_move_of {P : Program} {w : World} {K : PySem.W.Frag} {mg : PySem.Str → Option Value} {base : Heap} (c : C K mg base) : OkD P w K mg base d_is_move_of ["letters", "places", "value"] 3 F_is_move_of :=
  OkD.mk (N := ["letters", "places", "value"]) (f := He.ga K "is_move_of") (fd := (c.says.def_ 3 (d := d_is_move_of) rfl).choose) (g := g_is_move_of) (c.glo 32 rfl) (c.says.def_ 3 (d := d_is_move_of) rfl).choose_spec sc_is_move_of fun cdv A outer s H E B hr hgd =>
    have hu0 := hr.units0; have hu := hr.units; have hu1 := u1_of hr; have hu65 := u65_of hr
    dss_cons (ds_if (dt_w (dw_or (dt_not (dt_val (de_bi call_isi (cb_isi .tup) rfl (c.free 0 rfl) bo_isinstance (dab_cons (db_v 2) (dab_cons (db_ty .tup rfl (c.free 4 rfl) bo_tuple) (dab_nil)))))) (dw_or (dt_cmp2 (op_ne.or (op_neD hu)) opb_ne (db_of (de_bi call_len cb_len rfl (c.free 5 rfl) bo_len (dab_cons (db_v 2) (dab_nil)))) (db_of (de_int))) (dw_or (dt_not (dt_val (de_call (ok_is_count c) bp_is_count (hr.mono (by decide)) hgd (takes_of rfl rfl rfl rfl) (da_cons (de_ix (db_v 2) (db_of (de_int))) (da_nil)) (ALen.cons (ALen.nil)) rfl))) (dw_or1 (dt_not (dt_val (de_call (ok_is_count c) bp_is_count (hr.mono (by decide)) hgd (takes_of rfl rfl rfl rfl) (da_cons (de_ix (db_v 2) (db_of (de_int))) (da_nil)) (ALen.cons (ALen.nil)) rfl)))))))) (dss_one (ds_ret (de_bl))) (dss_nil)) (dss_one (ds_ret (de_and (de_cmp2 (op_lt.or (op_ltT hu0)) opb_lt (db_of (de_ix (db_v 2) (db_of (de_int)))) (db_v 0)) (de_one (de_cmp2 (op_lt.or (op_ltT hu0)) opb_lt (db_of (de_ix (db_v 2) (db_of (de_int)))) (db_v 1))))))
theorem sc_are_place_moves : FnScope ["letters", "places", "value", "near", "far", "move"] ["letters", "places", "value"] d_are_place_moves.scope := ⟨rfl, rfl, rfl, by decide +kernel, rfl, by decide +kernel, by decide +kernel⟩
def lt1_are_place_moves : Tgt := gV 5
def lf1_are_place_moves : Ev D := eCall F_is_move_of (aCons (eV 0) (aCons (eV 1) (aCons (eV 5) (aNil))))
def lt2_are_place_moves : Tgt := gT 2 (gConsR (gV 3) (gConsR (gV 4) (gNilR))) ((gV 3).ix ++ ((gV 4).ix ++ []))
def lf2_are_place_moves : Ev D := eBin2 oLt (eVb 3) (eVb 4)
def g_are_place_moves : Es := sSeq (sIf (bOr (bNot (toB (eFn (bIsi .tup) (aCons (eVb 2) (aCons (eTy .tup) (aNil)))))) (bNot (bCh oLe oLe (eC (.int 1)) (eFn bLen (aCons (eVb 2) (aNil))) (eC (.int 24))))) (sRt (eC (.bl false))) (sNx)) (sSeq (sIf (bNot (toB (eFn bAll (aCons (eFrz (nLc (iSeq (eV 2)) [5] (lt1_are_place_moves) (bYes) (lf1_are_place_moves))) (aNil))))) (sRt (eC (.bl false))) (sNx)) (sRt (eFn bAll (aCons (eFrz (nLc (iVia zipD (aCons (eV 2) (aCons (eSl (eVb 2) (pAt (eC (.int 1))) (pNo)) (aNil)))) [3, 4] (lt2_are_place_moves) (bYes) (lf2_are_place_moves))) (aNil)))))
def F_are_place_moves : Fn := fnOf 6 g_are_place_moves
theorem ok_are_place_moves {P : Program} {w : World} {K : PySem.W.Frag} {mg : PySem.Str → Option Value} {base : Heap} (c : C K mg base) : OkD P w K mg base d_are_place_moves ["letters", "places", "value"] 4 F_are_place_moves :=
  OkD.mk (N := ["letters", "places", "value", "near", "far", "move"]) (f := He.ga K "are_place_moves") (fd := (c.says.def_ 4 (d := d_are_place_moves) rfl).choose) (g := g_are_place_moves) (c.glo 33 rfl) (c.says.def_ 4 (d := d_are_place_moves) rfl).choose_spec sc_are_place_moves fun cdv A outer s H E B hr hgd =>
    have hu0 := hr.units0; have hu := hr.units; have hu1 := u1_of hr; have hu65 := u65_of hr
    dss_cons (ds_if (dt_w (dw_or (dt_not (dt_val (de_bi call_isi (cb_isi .tup) rfl (c.free 0 rfl) bo_isinstance (dab_cons (db_v 2) (dab_cons (db_ty .tup rfl (c.free 4 rfl) bo_tuple) (dab_nil)))))) (dw_or1 (dt_not (dt_ch op_le op_le opb_le opb_le (db_of (de_int)) (db_of (de_bi call_len cb_len rfl (c.free 5 rfl) bo_len (dab_cons (db_v 2) (dab_nil)))) (db_of (de_gi (c.int 6 rfl) rfl))))))) (dss_one (ds_ret (de_bl))) (dss_nil)) (dss_cons (ds_if (dt_not (dt_val (de_bi (cr_all rfl) cb_all rfl (c.free 7 rfl) bo_all (dab_cons (db_of (de_frz (dn_lc [("move", 5)] rfl sc_are_place_moves.nd (dj_of (di_seq (de_v 2))) (blk_of (N := ["letters", "places", "value", "near", "far", "move"]) (sc := d_are_place_moves.scope) (by decide +kernel)) (by decide) (fun _ _ _ _ _ => dg_v 5 sc_are_place_moves.nd) (fun _ _ _ _ _ => dts_nil) (fun _ _ _ _ _ => de_call (ok_is_move_of c) bp_is_move_of (hr.mono (by decide)) hgd takes0 (da_cons (de_v 0) (da_cons (de_v 1) (da_cons (de_v 5) (da_nil)))) (ALen.cons (ALen.cons (ALen.cons (ALen.nil)))) rfl)))) (dab_nil))))) (dss_one (ds_ret (de_bl))) (dss_nil)) (dss_one (ds_ret (de_bi (cr_all rfl) cb_all rfl (c.free 7 rfl) bo_all (dab_cons (db_of (de_frz (dn_lc [("near", 3), ("far", 4)] rfl sc_are_place_moves.nd (dj_of (di_zip (da_cons (de_v 2) (da_cons (de_sl (db_v 2) (do_at (db_of (de_int))) (do_no)) (da_nil))) rfl (c.free 8 rfl))) (blk_of (N := ["letters", "places", "value", "near", "far", "move"]) (sc := d_are_place_moves.scope) (by decide +kernel)) (by decide) (fun _ _ _ _ _ => dg_t rfl (dgs_cons (dg_v 3 sc_are_place_moves.nd) (dgs_cons (dg_v 4 sc_are_place_moves.nd) (dgs_nil)))) (fun _ _ _ _ _ => dts_nil) (fun _ _ _ _ _ => de_cmp2 (op_lt.or (op_ltT hu0)) opb_lt (db_v 3) (db_v 4))))) (dab_nil))))))
theorem sc_are_owners_of : FnScope ["value", "owner"] ["value"] d_are_owners_of.scope := ⟨rfl, rfl, rfl, by decide +kernel, rfl, by decide +kernel, by decide +kernel⟩
def lt1_are_owners_of : Tgt := gV 1
def lf1_are_owners_of : Ev D := eAnd (eCall F_is_count (aCons (eV 1) (aNil))) (eBin2 oLt (eVb 1) (eC (.int 2)))
def g_are_owners_of : Es := sSeq (sIf (bOr (bNot (toB (eFn (bIsi .tup) (aCons (eVb 0) (aCons (eTy .tup) (aNil)))))) (bNot (bCh oLe oLe (eC (.int 1)) (eFn bLen (aCons (eVb 0) (aNil))) (eC (.int 24))))) (sRt (eC (.bl false))) (sNx)) (sRt (eFn bAll (aCons (eFrz (nLc (iSeq (eV 0)) [1] (lt1_are_owners_of) (bYes) (lf1_are_owners_of))) (aNil))))
def F_are_owners_of : Fn := fnOf 2 g_are_owners_of
theorem ok_are_owners_of {P : Program} {w : World} {K : PySem.W.Frag} {mg : PySem.Str → Option Value} {base : Heap} (c : C K mg base) : OkD P w K mg base d_are_owners_of ["value"] 3 F_are_owners_of :=
  OkD.mk (N := ["value", "owner"]) (f := He.ga K "are_owners_of") (fd := (c.says.def_ 5 (d := d_are_owners_of) rfl).choose) (g := g_are_owners_of) (c.glo 34 rfl) (c.says.def_ 5 (d := d_are_owners_of) rfl).choose_spec sc_are_owners_of fun cdv A outer s H E B hr hgd =>
    have hu0 := hr.units0; have hu := hr.units; have hu1 := u1_of hr; have hu65 := u65_of hr
    dss_cons (ds_if (dt_w (dw_or (dt_not (dt_val (de_bi call_isi (cb_isi .tup) rfl (c.free 0 rfl) bo_isinstance (dab_cons (db_v 0) (dab_cons (db_ty .tup rfl (c.free 4 rfl) bo_tuple) (dab_nil)))))) (dw_or1 (dt_not (dt_ch op_le op_le opb_le opb_le (db_of (de_int)) (db_of (de_bi call_len cb_len rfl (c.free 5 rfl) bo_len (dab_cons (db_v 0) (dab_nil)))) (db_of (de_gi (c.int 9 rfl) rfl))))))) (dss_one (ds_ret (de_bl))) (dss_nil)) (dss_one (ds_ret (de_bi (cr_all rfl) cb_all rfl (c.free 7 rfl) bo_all (dab_cons (db_of (de_frz (dn_lc [("owner", 1)] rfl sc_are_owners_of.nd (dj_of (di_seq (de_v 0))) (blk_of (N := ["value", "owner"]) (sc := d_are_owners_of.scope) (by decide +kernel)) (by decide) (fun _ _ _ _ _ => dg_v 1 sc_are_owners_of.nd) (fun _ _ _ _ _ => dts_nil) (fun _ _ _ _ _ => de_and (de_call (ok_is_count c) bp_is_count (hr.mono (by decide)) hgd takes0 (da_cons (de_v 1) (da_nil)) (ALen.cons (ALen.nil)) rfl) (de_one (de_cmp2 (op_lt.or (op_ltT hu0)) opb_lt (db_v 1) (db_of (de_int)))))))) (dab_nil)))))
theorem sc_is_plant_of : FnScope ["letters", "value", "word", "told", "owners", "moves", "row"] ["letters", "value"] d_is_plant_of.scope := ⟨rfl, rfl, rfl, by decide +kernel, rfl, by decide +kernel, by decide +kernel⟩
def lt1_is_plant_of : Tgt := gV 6
def lf1_is_plant_of : Ev D := eCall F_are_place_moves (aCons (eV 0) (aCons (eFn bLen (aCons (eVb 4) (aNil))) (aCons (eV 6) (aNil))))
def lt2_is_plant_of : Tgt := gV 6
def lf2_is_plant_of : Ev D := eFn bLen (aCons (eVb 6) (aNil))
def g_is_plant_of : Es := sSeq (sIf (bOr (bNot (toB (eFn (bIsi .tup) (aCons (eVb 1) (aCons (eTy .tup) (aNil)))))) (bOr (toB (eBin2 oNe (eFn bLen (aCons (eVb 1) (aNil))) (eC (.int 4)))) (bOr (bNot (toB (eFn (bIsi .str) (aCons (eBin2 oIx (eVb 1) (eC (.int 0))) (aCons (eTy .str) (aNil)))))) (toB (eBin2 oNe (eBin2 oIx (eVb 1) (eC (.int 0))) (eC (.str "plant"))))))) (sRt (eC (.bl false))) (sNx)) (sSeq (sUnp (gT 4 (gConsR (gV 2) (gConsR (gV 3) (gConsR (gV 4) (gConsR (gV 5) (gNilR))))) ((gV 2).ix ++ ((gV 3).ix ++ ((gV 4).ix ++ ((gV 5).ix ++ []))))) (eV 1)) (sSeq (sIf (bOr (bNot (toB (eCall F_is_count (aCons (eV 3) (aNil))))) (bOr (toB (eBin2 oNe (eVb 3) (eVb 0))) (bNot (toB (eCall F_are_owners_of (aCons (eV 4) (aNil))))))) (sRt (eC (.bl false))) (sNx)) (sSeq (sIf (bOr (bNot (toB (eFn (bIsi .tup) (aCons (eVb 5) (aCons (eTy .tup) (aNil)))))) (toB (eBin2 oNe (eFn bLen (aCons (eVb 5) (aNil))) (eFn bLen (aCons (eVb 4) (aNil)))))) (sRt (eC (.bl false))) (sNx)) (sSeq (sIf (bNot (toB (eFn bAll (aCons (eFrz (nLc (iSeq (eV 5)) [6] (lt1_is_plant_of) (bYes) (lf1_is_plant_of))) (aNil))))) (sRt (eC (.bl false))) (sNx)) (sRt (eBin2 oLe (eFn bSum (aCons (eFrz (nLc (iSeq (eV 5)) [6] (lt2_is_plant_of) (bYes) (lf2_is_plant_of))) (aNil))) (eC (.int 200))))))))
def F_is_plant_of : Fn := fnOf 7 g_is_plant_of
theorem ok_is_plant_of {P : Program} {w : World} {K : PySem.W.Frag} {mg : PySem.Str → Option Value} {base : Heap} (c : C K mg base) : OkD P w K mg base d_is_plant_of ["letters", "value"] 5 F_is_plant_of :=
  OkD.mk (N := ["letters", "value", "word", "told", "owners", "moves", "row"]) (f := He.ga K "is_plant_of") (fd := (c.says.def_ 6 (d := d_is_plant_of) rfl).choose) (g := g_is_plant_of) (c.glo 35 rfl) (c.says.def_ 6 (d := d_is_plant_of) rfl).choose_spec sc_is_plant_of fun cdv A outer s H E B hr hgd =>
    have hu0 := hr.units0; have hu := hr.units; have hu1 := u1_of hr; have hu65 := u65_of hr
    dss_cons (ds_if (dt_w (dw_or (dt_not (dt_val (de_bi call_isi (cb_isi .tup) rfl (c.free 0 rfl) bo_isinstance (dab_cons (db_v 1) (dab_cons (db_ty .tup rfl (c.free 4 rfl) bo_tuple) (dab_nil)))))) (dw_or (dt_cmp2 (op_ne.or (op_neD hu)) opb_ne (db_of (de_bi call_len cb_len rfl (c.free 5 rfl) bo_len (dab_cons (db_v 1) (dab_nil)))) (db_of (de_int))) (dw_or (dt_not (dt_val (de_bi call_isi (cb_isi .str) rfl (c.free 0 rfl) bo_isinstance (dab_cons (db_of (de_ix (db_v 1) (db_of (de_int)))) (dab_cons (db_ty .str rfl (c.free 10 rfl) bo_str) (dab_nil)))))) (dw_or1 (dt_cmp2 (op_ne.or (op_neD hu)) opb_ne (db_of (de_ix (db_v 1) (db_of (de_int)))) (db_of (de_gs (c.str 11 rfl) rfl)))))))) (dss_one (ds_ret (de_bl))) (dss_nil)) (dss_cons (ds_unp (de_v 1) (dg_t rfl (dgs_cons (dg_v 2 sc_is_plant_of.nd) (dgs_cons (dg_v 3 sc_is_plant_of.nd) (dgs_cons (dg_v 4 sc_is_plant_of.nd) (dgs_cons (dg_v 5 sc_is_plant_of.nd) (dgs_nil))))))) (dss_cons (ds_if (dt_w (dw_or (dt_not (dt_val (de_call (ok_is_count c) bp_is_count (hr.mono (by decide)) hgd (takes_of rfl rfl rfl rfl) (da_cons (de_v 3) (da_nil)) (ALen.cons (ALen.nil)) rfl))) (dw_or (dt_cmp2 (op_ne.or (op_neD hu)) opb_ne (db_v 3) (db_v 0)) (dw_or1 (dt_not (dt_val (de_call (ok_are_owners_of c) bp_are_owners_of (hr.mono (by decide)) hgd (takes_of rfl rfl rfl rfl) (da_cons (de_v 4) (da_nil)) (ALen.cons (ALen.nil)) rfl))))))) (dss_one (ds_ret (de_bl))) (dss_nil)) (dss_cons (ds_if (dt_w (dw_or (dt_not (dt_val (de_bi call_isi (cb_isi .tup) rfl (c.free 0 rfl) bo_isinstance (dab_cons (db_v 5) (dab_cons (db_ty .tup rfl (c.free 4 rfl) bo_tuple) (dab_nil)))))) (dw_or1 (dt_cmp2 (op_ne.or (op_neD hu)) opb_ne (db_of (de_bi call_len cb_len rfl (c.free 5 rfl) bo_len (dab_cons (db_v 5) (dab_nil)))) (db_of (de_bi call_len cb_len rfl (c.free 5 rfl) bo_len (dab_cons (db_v 4) (dab_nil)))))))) (dss_one (ds_ret (de_bl))) (dss_nil)) (dss_cons (ds_if (dt_not (dt_val (de_bi (cr_all rfl) cb_all rfl (c.free 7 rfl) bo_all (dab_cons (db_of (de_frz (dn_lc [("row", 6)] rfl sc_is_plant_of.nd (dj_of (di_seq (de_v 5))) (blk_of (N := ["letters", "value", "word", "told", "owners", "moves", "row"]) (sc := d_is_plant_of.scope) (by decide +kernel)) (by decide) (fun _ _ _ _ _ => dg_v 6 sc_is_plant_of.nd) (fun _ _ _ _ _ => dts_nil) (fun _ _ _ _ _ => de_call (ok_are_place_moves c) bp_are_place_moves (hr.mono (by decide)) hgd takes0 (da_cons (de_v 0) (da_cons (de_bi call_len cb_len rfl (c.free 5 rfl) bo_len (dab_cons (db_v 4) (dab_nil))) (da_cons (de_v 6) (da_nil)))) (ALen.cons (ALen.cons (ALen.cons (ALen.nil)))) rfl)))) (dab_nil))))) (dss_one (ds_ret (de_bl))) (dss_nil)) (dss_one (ds_ret (de_cmp2 op_le opb_le (db_of (de_bi (cr_sum rfl) cb_sum rfl (c.free 12 rfl) bo_sum (dab_cons (db_of (de_frz (dn_lc [("row", 6)] rfl sc_is_plant_of.nd (dj_of (di_seq (de_v 5))) (blk_of (N := ["letters", "value", "word", "told", "owners", "moves", "row"]) (sc := d_is_plant_of.scope) (by decide +kernel)) (by decide) (fun _ _ _ _ _ => dg_v 6 sc_is_plant_of.nd) (fun _ _ _ _ _ => dts_nil) (fun _ _ _ _ _ => de_bi call_len cb_len rfl (c.free 5 rfl) bo_len (dab_cons (db_v 6) (dab_nil)))))) (dab_nil)))) (db_of (de_gi (c.int 13 rfl) rfl)))))))))
theorem sc_is_any_plant : FnScope ["value"] ["value"] d_is_any_plant.scope := ⟨rfl, rfl, rfl, by decide +kernel, rfl, by decide +kernel, by decide +kernel⟩
def g_is_any_plant : Es := sSeq (sIf (bOr (bNot (toB (eFn (bIsi .tup) (aCons (eVb 0) (aCons (eTy .tup) (aNil)))))) (bOr (toB (eBin2 oNe (eFn bLen (aCons (eVb 0) (aNil))) (eC (.int 4)))) (bNot (toB (eCall F_is_count (aCons (eBin2 oIx (eVb 0) (eC (.int 1))) (aNil))))))) (sRt (eC (.bl false))) (sNx)) (sRt (eAnd (ofB (bCh oLe oLe (eC (.int 1)) (eBin2 oIx (eVb 0) (eC (.int 1))) (eC (.int 4)))) (eCall F_is_plant_of (aCons (eBin2 oIx (eVb 0) (eC (.int 1))) (aCons (eV 0) (aNil))))))
def F_is_any_plant : Fn := fnOf 1 g_is_any_plant
theorem ok_is_any_plant {P : Program} {w : World} {K : PySem.W.Frag} {mg : PySem.Str → Option Value} {base : Heap} (c : C K mg base) : OkD P w K mg base d_is_any_plant ["value"] 6 F_is_any_plant :=
  OkD.mk (N := ["value"]) (f := He.ga K "is_any_plant") (fd := (c.says.def_ 7 (d := d_is_any_plant) rfl).choose) (g := g_is_any_plant) (c.glo 36 rfl) (c.says.def_ 7 (d := d_is_any_plant) rfl).choose_spec sc_is_any_plant fun cdv A outer s H E B hr hgd =>
    have hu0 := hr.units0; have hu := hr.units; have hu1 := u1_of hr; have hu65 := u65_of hr
    dss_cons (ds_if (dt_w (dw_or (dt_not (dt_val (de_bi call_isi (cb_isi .tup) rfl (c.free 0 rfl) bo_isinstance (dab_cons (db_v 0) (dab_cons (db_ty .tup rfl (c.free 4 rfl) bo_tuple) (dab_nil)))))) (dw_or (dt_cmp2 (op_ne.or (op_neD hu)) opb_ne (db_of (de_bi call_len cb_len rfl (c.free 5 rfl) bo_len (dab_cons (db_v 0) (dab_nil)))) (db_of (de_int))) (dw_or1 (dt_not (dt_val (de_call (ok_is_count c) bp_is_count (hr.mono (by decide)) hgd (takes_of rfl rfl rfl rfl) (da_cons (de_ix (db_v 0) (db_of (de_int))) (da_nil)) (ALen.cons (ALen.nil)) rfl))))))) (dss_one (ds_ret (de_bl))) (dss_nil)) (dss_one (ds_ret (de_and (de_ch op_le op_le opb_le opb_le (db_of (de_int)) (db_of (de_ix (db_v 0) (db_of (de_int)))) (db_of (de_gi (c.int 14 rfl) rfl))) (de_one (de_call (ok_is_plant_of c) bp_is_plant_of (hr.mono (by decide)) hgd (takes_of rfl rfl rfl rfl) (da_cons (de_ix (db_v 0) (db_of (de_int))) (da_cons (de_v 0) (da_nil))) (ALen.cons (ALen.cons (ALen.nil))) rfl)))))
theorem sc_want_plant : FnScope ["value"] ["value"] d_want_plant.scope := ⟨rfl, rfl, rfl, by decide +kernel, rfl, by decide +kernel, by decide +kernel⟩
def g_want_plant : Es := sSeq (sIf (bNot (toB (eCall F_is_any_plant (aCons (eV 0) (aNil))))) ((fun _ _ => .no)) (sNx)) (sRt (eV 0))
def F_want_plant : Fn := fnOf 1 g_want_plant
theorem ok_want_plant {P : Program} {w : World} {K : PySem.W.Frag} {mg : PySem.Str → Option Value} {base : Heap} (c : C K mg base) : OkD P w K mg base d_want_plant ["value"] 7 F_want_plant :=
  OkD.mk (N := ["value"]) (f := He.ga K "want_plant") (fd := (c.says.def_ 8 (d := d_want_plant) rfl).choose) (g := g_want_plant) (c.glo 37 rfl) (c.says.def_ 8 (d := d_want_plant) rfl).choose_spec sc_want_plant fun cdv A outer s H E B hr hgd =>
    have hu0 := hr.units0; have hu := hr.units; have hu1 := u1_of hr; have hu65 := u65_of hr
    dss_cons (ds_if (dt_not (dt_val (de_call (ok_is_any_plant c) bp_is_any_plant (hr.mono (by decide)) hgd (takes_of rfl rfl rfl rfl) (da_cons (de_v 0) (da_nil)) (ALen.cons (ALen.nil)) rfl))) (dss_one (ds_never)) (dss_nil)) (dss_one (ds_ret (de_v 0)))
theorem sc_moves_of : FnScope ["plant", "found", "place", "row", "letter", "to"] ["plant"] d_moves_of.scope := ⟨rfl, rfl, rfl, by decide +kernel, rfl, by decide +kernel, by decide +kernel⟩
def lt1_moves_of : Tgt := gT 2 (gConsR (gV 4) (gConsR (gV 5) (gNilR))) ((gV 4).ix ++ ((gV 5).ix ++ []))
def lf1_moves_of : Ev D := eTup (aCons (eV 2) (aCons (eV 4) (aCons (eV 5) (aNil))))
def t1_moves_of : Tgt := gT 2 (gConsR (gV 2) (gConsR (gV 3) (gNilR))) ((gV 2).ix ++ ((gV 3).ix ++ []))
def b1_moves_of : Es := sMu 1 mExt (eFrz (nLc (iSeq (eV 3)) [4, 5] (lt1_moves_of) (bYes) (lf1_moves_of)))
def g_moves_of : Es := sSeq (sNew 1 (nLst (aNil))) (sSeq (sFor (iVia enumOf (aCons (eBin2 oIx (eVb 0) (eC (.int 3))) (aNil))) (t1_moves_of) (b1_moves_of)) (sSeq (sFz 1) (sRt (eV 1))))
def F_moves_of : Fn := fnOf 6 g_moves_of
theorem ok_moves_of {P : Program} {w : World} {K : PySem.W.Frag} {mg : PySem.Str → Option Value} {base : Heap} (c : C K mg base) : OkD P w K mg base d_moves_of ["plant"] 1 F_moves_of :=
  OkD.mk (N := ["plant", "found", "place", "row", "letter", "to"]) (f := He.ga K "moves_of") (fd := (c.says.def_ 9 (d := d_moves_of) rfl).choose) (g := g_moves_of) (c.glo 38 rfl) (c.says.def_ 9 (d := d_moves_of) rfl).choose_spec sc_moves_of fun cdv A outer s H E B hr hgd =>
    have hu0 := hr.units0; have hu := hr.units; have hu1 := u1_of hr; have hu65 := u65_of hr
    dss_cons (ds_new 1 (dn_lst (da_nil)) sc_moves_of.nd) (dss_cons (ds_for (passes_of rfl) rfl (di_enum (da_cons (de_ix (db_v 0) (db_of (de_int))) (da_nil)) rfl (c.free 15 rfl)) (dg_t rfl (dgs_cons (dg_v 2 sc_moves_of.nd) (dgs_cons (dg_v 3 sc_moves_of.nd) (dgs_nil)))) (dss_one (ds_ext 1 (db_of (de_frz (dn_lc [("letter", 4), ("to", 5)] rfl sc_moves_of.nd (dj_of (di_seq (de_v 3))) (blk_of (N := ["plant", "found", "place", "row", "letter", "to"]) (sc := d_moves_of.scope) (by decide +kernel)) (by decide) (fun _ _ _ _ _ => dg_t rfl (dgs_cons (dg_v 4 sc_moves_of.nd) (dgs_cons (dg_v 5 sc_moves_of.nd) (dgs_nil)))) (fun _ _ _ _ _ => dts_nil) (fun _ _ _ _ _ => de_tup (da_cons (de_v 2) (da_cons (de_v 4) (da_cons (de_v 5) (da_nil))))))))))) (dss_fz (dss_one (ds_ret (de_v 1)))))
theorem sc_numbers_of : FnScope ["plant", "found", "at", "row"] ["plant"] d_numbers_of.scope := ⟨rfl, rfl, rfl, by decide +kernel, rfl, by decide +kernel, by decide +kernel⟩
def t1_numbers_of : Tgt := gV 3
def b1_numbers_of : Es := sSeq (sMu 1 mApp (eFrz (nRg2 (eVb 2) (eBin2 oAdd (eVb 2) (eFn bLen (aCons (eVb 3) (aNil))))))) (sSet 2 (eBin2 oAdd (eVb 2) (eFn bLen (aCons (eVb 3) (aNil)))))
def g_numbers_of : Es := sSeq (sPar [1, 2] (mNew (nLst (aNil)) (mVal (eC (.int 0)) (mNil)))) (sSeq (sFor (iSeq (eBin2 oIx (eVb 0) (eC (.int 3)))) (t1_numbers_of) (b1_numbers_of)) (sSeq (sFz 1) (sRt (eV 1))))
def F_numbers_of : Fn := fnOf 4 g_numbers_of
theorem ok_numbers_of {P : Program} {w : World} {K : PySem.W.Frag} {mg : PySem.Str → Option Value} {base : Heap} (c : C K mg base) : OkD P w K mg base d_numbers_of ["plant"] 1 F_numbers_of :=
  OkD.mk (N := ["plant", "found", "at", "row"]) (f := He.ga K "numbers_of") (fd := (c.says.def_ 10 (d := d_numbers_of) rfl).choose) (g := g_numbers_of) (c.glo 39 rfl) (c.says.def_ 10 (d := d_numbers_of) rfl).choose_spec sc_numbers_of fun cdv A outer s H E B hr hgd =>
    have hu0 := hr.units0; have hu := hr.units; have hu1 := u1_of hr; have hu65 := u65_of hr
    dss_cons (ds_par2 (i := 1) (j := 2) rfl sc_numbers_of.nd (dm_new (dn_lst (da_nil)) (dm_val (de_int) (dm_nil)))) (dss_cons (ds_for (passes_of rfl) rfl (di_seq (de_ix (db_v 0) (db_of (de_int)))) (dg_v 3 sc_numbers_of.nd) (dss_cons (ds_app 1 (de_frz (dn_rg2 rfl rfl (c.free 16 rfl) rfl (c.free 17 rfl) (db_v 2) (db_of (de_add (db_v 2) (db_of (de_bi call_len cb_len rfl (c.free 5 rfl) bo_len (dab_cons (db_v 3) (dab_nil))))))))) (dss_one (ds_set 2 (de_add (db_v 2) (db_of (de_bi call_len cb_len rfl (c.free 5 rfl) bo_len (dab_cons (db_v 3) (dab_nil))))) sc_numbers_of.nd)))) (dss_fz (dss_one (ds_ret (de_v 1)))))
theorem sc_is_taken : FnScope ["plant", "side", "place", "value"] ["plant", "side", "place", "value"] d_is_taken.scope := ⟨rfl, rfl, rfl, by decide +kernel, rfl, by decide +kernel, by decide +kernel⟩
def g_is_taken : Es := sSeq (sIf (toB (eBin2 oNe (eBin2 oIx (eBin2 oIx (eVb 0) (eC (.int 2))) (eVb 2)) (eVb 1))) (sRt (eBin2 oIsN (eVb 3) (eC .non))) (sNx)) (sRt (eAnd (eCall F_is_count (aCons (eV 3) (aNil))) (eBin2 oLt (eVb 3) (eFn bLen (aCons (eBin2 oIx (eBin2 oIx (eVb 0) (eC (.int 3))) (eVb 2)) (aNil))))))
def F_is_taken : Fn := fnOf 4 g_is_taken
theorem ok_is_taken {P : Program} {w : World} {K : PySem.W.Frag} {mg : PySem.Str → Option Value} {base : Heap} (c : C K mg base) : OkD P w K mg base d_is_taken ["plant", "side", "place", "value"] 3 F_is_taken :=
  OkD.mk (N := ["plant", "side", "place", "value"]) (f := He.ga K "is_taken") (fd := (c.says.def_ 11 (d := d_is_taken) rfl).choose) (g := g_is_taken) (c.glo 40 rfl) (c.says.def_ 11 (d := d_is_taken) rfl).choose_spec sc_is_taken fun cdv A outer s H E B hr hgd =>
    have hu0 := hr.units0; have hu := hr.units; have hu1 := u1_of hr; have hu65 := u65_of hr
    dss_cons (ds_if (dt_cmp2 (op_ne.or (op_neD hu)) opb_ne (db_of (de_ix (db_of (de_ix (db_v 0) (db_of (de_int)))) (db_v 2))) (db_v 1)) (dss_one (ds_ret (de_cmp2 op_isN opb_isN (db_v 3) (db_of (de_non))))) (dss_nil)) (dss_one (ds_ret (de_and (de_call (ok_is_count c) bp_is_count (hr.mono (by decide)) hgd (takes_of rfl rfl rfl rfl) (da_cons (de_v 3) (da_nil)) (ALen.cons (ALen.nil)) rfl) (de_one (de_cmp2 (op_lt.or (op_ltT hu0)) opb_lt (db_v 3) (db_of (de_bi call_len cb_len rfl (c.free 5 rfl) bo_len (dab_cons (db_of (de_ix (db_of (de_ix (db_v 0) (db_of (de_int)))) (db_v 2))) (dab_nil)))))))))
theorem sc_are_taken : FnScope ["plant", "side", "value", "place", "one"] ["plant", "side", "value"] d_are_taken.scope := ⟨rfl, rfl, rfl, by decide +kernel, rfl, by decide +kernel, by decide +kernel⟩
def lt1_are_taken : Tgt := gT 2 (gConsR (gV 3) (gConsR (gV 4) (gNilR))) ((gV 3).ix ++ ((gV 4).ix ++ []))
def lf1_are_taken : Ev D := eCall F_is_taken (aCons (eV 0) (aCons (eV 1) (aCons (eV 3) (aCons (eV 4) (aNil)))))
def g_are_taken : Es := sSeq (sIf (bOr (bNot (toB (eFn (bIsi .tup) (aCons (eVb 2) (aCons (eTy .tup) (aNil)))))) (toB (eBin2 oNe (eFn bLen (aCons (eVb 2) (aNil))) (eFn bLen (aCons (eBin2 oIx (eVb 0) (eC (.int 2))) (aNil)))))) (sRt (eC (.bl false))) (sNx)) (sRt (eFn bAll (aCons (eFrz (nLc (iVia enumOf (aCons (eV 2) (aNil))) [3, 4] (lt1_are_taken) (bYes) (lf1_are_taken))) (aNil))))
def F_are_taken : Fn := fnOf 5 g_are_taken
theorem ok_are_taken {P : Program} {w : World} {K : PySem.W.Frag} {mg : PySem.Str → Option Value} {base : Heap} (c : C K mg base) : OkD P w K mg base d_are_taken ["plant", "side", "value"] 4 F_are_taken :=
  OkD.mk (N := ["plant", "side", "value", "place", "one"]) (f := He.ga K "are_taken") (fd := (c.says.def_ 12 (d := d_are_taken) rfl).choose) (g := g_are_taken) (c.glo 41 rfl) (c.says.def_ 12 (d := d_are_taken) rfl).choose_spec sc_are_taken fun cdv A outer s H E B hr hgd =>
    have hu0 := hr.units0; have hu := hr.units; have hu1 := u1_of hr; have hu65 := u65_of hr
    dss_cons (ds_if (dt_w (dw_or (dt_not (dt_val (de_bi call_isi (cb_isi .tup) rfl (c.free 0 rfl) bo_isinstance (dab_cons (db_v 2) (dab_cons (db_ty .tup rfl (c.free 4 rfl) bo_tuple) (dab_nil)))))) (dw_or1 (dt_cmp2 (op_ne.or (op_neD hu)) opb_ne (db_of (de_bi call_len cb_len rfl (c.free 5 rfl) bo_len (dab_cons (db_v 2) (dab_nil)))) (db_of (de_bi call_len cb_len rfl (c.free 5 rfl) bo_len (dab_cons (db_of (de_ix (db_v 0) (db_of (de_int)))) (dab_nil)))))))) (dss_one (ds_ret (de_bl))) (dss_nil)) (dss_one (ds_ret (de_bi (cr_all rfl) cb_all rfl (c.free 7 rfl) bo_all (dab_cons (db_of (de_frz (dn_lc [("place", 3), ("one", 4)] rfl sc_are_taken.nd (dj_of (di_enum (da_cons (de_v 2) (da_nil)) rfl (c.free 15 rfl))) (blk_of (N := ["plant", "side", "value", "place", "one"]) (sc := d_are_taken.scope) (by decide +kernel)) (by decide) (fun _ _ _ _ _ => dg_t rfl (dgs_cons (dg_v 3 sc_are_taken.nd) (dgs_cons (dg_v 4 sc_are_taken.nd) (dgs_nil)))) (fun _ _ _ _ _ => dts_nil) (fun _ _ _ _ _ => de_call (ok_is_taken c) bp_is_taken (hr.mono (by decide)) hgd takes0 (da_cons (de_v 0) (da_cons (de_v 1) (da_cons (de_v 3) (da_cons (de_v 4) (da_nil))))) (ALen.cons (ALen.cons (ALen.cons (ALen.cons (ALen.nil))))) rfl)))) (dab_nil)))))
theorem sc_are_next : FnScope ["moves", "many", "value", "one"] ["moves", "many", "value"] d_are_next.scope := ⟨rfl, rfl, rfl, by decide +kernel, rfl, by decide +kernel, by decide +kernel⟩
def lt1_are_next : Tgt := gV 3
def lf1_are_next : Ev D := eAnd (eCall F_is_count (aCons (eV 3) (aNil))) (eBin2 oLt (eVb 3) (eVb 1))
def g_are_next : Es := sSeq (sIf (bOr (bNot (toB (eFn (bIsi .tup) (aCons (eVb 2) (aCons (eTy .tup) (aNil)))))) (toB (eBin2 oNe (eFn bLen (aCons (eVb 2) (aNil))) (eVb 0)))) (sRt (eC (.bl false))) (sNx)) (sRt (eFn bAll (aCons (eFrz (nLc (iSeq (eV 2)) [3] (lt1_are_next) (bYes) (lf1_are_next))) (aNil))))
def F_are_next : Fn := fnOf 4 g_are_next
theorem ok_are_next {P : Program} {w : World} {K : PySem.W.Frag} {mg : PySem.Str → Option Value} {base : Heap} (c : C K mg base) : OkD P w K mg base d_are_next ["moves", "many", "value"] 3 F_are_next :=
  OkD.mk (N := ["moves", "many", "value", "one"]) (f := He.ga K "are_next") (fd := (c.says.def_ 13 (d := d_are_next) rfl).choose) (g := g_are_next) (c.glo 42 rfl) (c.says.def_ 13 (d := d_are_next) rfl).choose_spec sc_are_next fun cdv A outer s H E B hr hgd =>
    have hu0 := hr.units0; have hu := hr.units; have hu1 := u1_of hr; have hu65 := u65_of hr
    dss_cons (ds_if (dt_w (dw_or (dt_not (dt_val (de_bi call_isi (cb_isi .tup) rfl (c.free 0 rfl) bo_isinstance (dab_cons (db_v 2) (dab_cons (db_ty .tup rfl (c.free 4 rfl) bo_tuple) (dab_nil)))))) (dw_or1 (dt_cmp2 (op_ne.or (op_neD hu)) opb_ne (db_of (de_bi call_len cb_len rfl (c.free 5 rfl) bo_len (dab_cons (db_v 2) (dab_nil)))) (db_v 0))))) (dss_one (ds_ret (de_bl))) (dss_nil)) (dss_one (ds_ret (de_bi (cr_all rfl) cb_all rfl (c.free 7 rfl) bo_all (dab_cons (db_of (de_frz (dn_lc [("one", 3)] rfl sc_are_next.nd (dj_of (di_seq (de_v 2))) (blk_of (N := ["moves", "many", "value", "one"]) (sc := d_are_next.scope) (by decide +kernel)) (by decide) (fun _ _ _ _ _ => dg_v 3 sc_are_next.nd) (fun _ _ _ _ _ => dts_nil) (fun _ _ _ _ _ => de_and (de_call (ok_is_count c) bp_is_count (hr.mono (by decide)) hgd takes0 (da_cons (de_v 3) (da_nil)) (ALen.cons (ALen.nil)) rfl) (de_one (de_cmp2 (op_lt.or (op_ltT hu0)) opb_lt (db_v 3) (db_v 1))))))) (dab_nil)))))
theorem sc_is_machine_of : FnScope ["plant", "word", "side", "most", "value", "takes", "nexts", "many", "some", "one"] ["plant", "word", "side", "most", "value"] d_is_machine_of.scope := ⟨rfl, rfl, rfl, by decide +kernel, rfl, by decide +kernel, by decide +kernel⟩
def lt1_is_machine_of : Tgt := gV 9
def lf1_is_machine_of : Ev D := eCall F_are_taken (aCons (eV 0) (aCons (eV 2) (aCons (eV 9) (aNil))))
def lt2_is_machine_of : Tgt := gV 8
def lf2_is_machine_of : Ev D := eFn bLen (aCons (eVb 8) (aNil))
def lt3_is_machine_of : Tgt := gV 9
def lf3_is_machine_of : Ev D := eCall F_are_next (aCons (eV 7) (aCons (eFn bLen (aCons (eVb 5) (aNil))) (aCons (eV 9) (aNil))))
def g_is_machine_of : Es := sSeq (sIf (bOr (bNot (toB (eFn (bIsi .tup) (aCons (eVb 4) (aCons (eTy .tup) (aNil)))))) (bOr (toB (eBin2 oNe (eFn bLen (aCons (eVb 4) (aNil))) (eC (.int 3)))) (bOr (bNot (toB (eFn (bIsi .str) (aCons (eBin2 oIx (eVb 4) (eC (.int 0))) (aCons (eTy .str) (aNil)))))) (toB (eBin2 oNe (eBin2 oIx (eVb 4) (eC (.int 0))) (eVb 1)))))) (sRt (eC (.bl false))) (sNx)) (sSeq (sUnp (gT 2 (gConsR (gV 5) (gConsR (gV 6) (gNilR))) ((gV 5).ix ++ ((gV 6).ix ++ []))) (eSl (eVb 4) (pAt (eC (.int 1))) (pNo))) (sSeq (sIf (bOr (bNot (toB (eFn (bIsi .tup) (aCons (eVb 5) (aCons (eTy .tup) (aNil)))))) (bNot (toB (eFn (bIsi .tup) (aCons (eVb 6) (aCons (eTy .tup) (aNil))))))) (sRt (eC (.bl false))) (sNx)) (sSeq (sIf (bOr (bNot (bCh oLe oLe (eC (.int 1)) (eFn bLen (aCons (eVb 5) (aNil))) (eVb 3))) (toB (eBin2 oNe (eFn bLen (aCons (eVb 6) (aNil))) (eFn bLen (aCons (eVb 5) (aNil)))))) (sRt (eC (.bl false))) (sNx)) (sSeq (sIf (bNot (toB (eFn bAll (aCons (eFrz (nLc (iSeq (eV 5)) [9] (lt1_is_machine_of) (bYes) (lf1_is_machine_of))) (aNil))))) (sRt (eC (.bl false))) (sNx)) (sSeq (sSet 7 (eFn bSum (aCons (eFrz (nLc (iSeq (eBin2 oIx (eVb 0) (eC (.int 3)))) [8] (lt2_is_machine_of) (bYes) (lf2_is_machine_of))) (aNil)))) (sRt (eFn bAll (aCons (eFrz (nLc (iSeq (eV 6)) [9] (lt3_is_machine_of) (bYes) (lf3_is_machine_of))) (aNil)))))))))
def F_is_machine_of : Fn := fnOf 10 g_is_machine_of
theorem ok_is_machine_of {P : Program} {w : World} {K : PySem.W.Frag} {mg : PySem.Str → Option Value} {base : Heap} (c : C K mg base) : OkD P w K mg base d_is_machine_of ["plant", "word", "side", "most", "value"] 5 F_is_machine_of :=
  OkD.mk (N := ["plant", "word", "side", "most", "value", "takes", "nexts", "many", "some", "one"]) (f := He.ga K "is_machine_of") (fd := (c.says.def_ 14 (d := d_is_machine_of) rfl).choose) (g := g_is_machine_of) (c.glo 43 rfl) (c.says.def_ 14 (d := d_is_machine_of) rfl).choose_spec sc_is_machine_of fun cdv A outer s H E B hr hgd =>
    have hu0 := hr.units0; have hu := hr.units; have hu1 := u1_of hr; have hu65 := u65_of hr
    dss_cons (ds_if (dt_w (dw_or (dt_not (dt_val (de_bi call_isi (cb_isi .tup) rfl (c.free 0 rfl) bo_isinstance (dab_cons (db_v 4) (dab_cons (db_ty .tup rfl (c.free 4 rfl) bo_tuple) (dab_nil)))))) (dw_or (dt_cmp2 (op_ne.or (op_neD hu)) opb_ne (db_of (de_bi call_len cb_len rfl (c.free 5 rfl) bo_len (dab_cons (db_v 4) (dab_nil)))) (db_of (de_int))) (dw_or (dt_not (dt_val (de_bi call_isi (cb_isi .str) rfl (c.free 0 rfl) bo_isinstance (dab_cons (db_of (de_ix (db_v 4) (db_of (de_int)))) (dab_cons (db_ty .str rfl (c.free 10 rfl) bo_str) (dab_nil)))))) (dw_or1 (dt_cmp2 (op_ne.or (op_neD hu)) opb_ne (db_of (de_ix (db_v 4) (db_of (de_int)))) (db_v 1))))))) (dss_one (ds_ret (de_bl))) (dss_nil)) (dss_cons (ds_unp (de_sl (db_v 4) (do_at (db_of (de_int))) (do_no)) (dg_t rfl (dgs_cons (dg_v 5 sc_is_machine_of.nd) (dgs_cons (dg_v 6 sc_is_machine_of.nd) (dgs_nil))))) (dss_cons (ds_if (dt_w (dw_or (dt_not (dt_val (de_bi call_isi (cb_isi .tup) rfl (c.free 0 rfl) bo_isinstance (dab_cons (db_v 5) (dab_cons (db_ty .tup rfl (c.free 4 rfl) bo_tuple) (dab_nil)))))) (dw_or1 (dt_not (dt_val (de_bi call_isi (cb_isi .tup) rfl (c.free 0 rfl) bo_isinstance (dab_cons (db_v 6) (dab_cons (db_ty .tup rfl (c.free 4 rfl) bo_tuple) (dab_nil))))))))) (dss_one (ds_ret (de_bl))) (dss_nil)) (dss_cons (ds_if (dt_w (dw_or (dt_not (dt_ch op_le op_le opb_le opb_le (db_of (de_int)) (db_of (de_bi call_len cb_len rfl (c.free 5 rfl) bo_len (dab_cons (db_v 5) (dab_nil)))) (db_v 3))) (dw_or1 (dt_cmp2 (op_ne.or (op_neD hu)) opb_ne (db_of (de_bi call_len cb_len rfl (c.free 5 rfl) bo_len (dab_cons (db_v 6) (dab_nil)))) (db_of (de_bi call_len cb_len rfl (c.free 5 rfl) bo_len (dab_cons (db_v 5) (dab_nil)))))))) (dss_one (ds_ret (de_bl))) (dss_nil)) (dss_cons (ds_if (dt_not (dt_val (de_bi (cr_all rfl) cb_all rfl (c.free 7 rfl) bo_all (dab_cons (db_of (de_frz (dn_lc [("one", 9)] rfl sc_is_machine_of.nd (dj_of (di_seq (de_v 5))) (blk_of (N := ["plant", "word", "side", "most", "value", "takes", "nexts", "many", "some", "one"]) (sc := d_is_machine_of.scope) (by decide +kernel)) (by decide) (fun _ _ _ _ _ => dg_v 9 sc_is_machine_of.nd) (fun _ _ _ _ _ => dts_nil) (fun _ _ _ _ _ => de_call (ok_are_taken c) bp_are_taken (hr.mono (by decide)) hgd takes0 (da_cons (de_v 0) (da_cons (de_v 2) (da_cons (de_v 9) (da_nil)))) (ALen.cons (ALen.cons (ALen.cons (ALen.nil)))) rfl)))) (dab_nil))))) (dss_one (ds_ret (de_bl))) (dss_nil)) (dss_cons (ds_set 7 (de_bi (cr_sum rfl) cb_sum rfl (c.free 12 rfl) bo_sum (dab_cons (db_of (de_frz (dn_lc [("some", 8)] rfl sc_is_machine_of.nd (dj_of (di_seq (de_ix (db_v 0) (db_of (de_int))))) (blk_of (N := ["plant", "word", "side", "most", "value", "takes", "nexts", "many", "some", "one"]) (sc := d_is_machine_of.scope) (by decide +kernel)) (by decide) (fun _ _ _ _ _ => dg_v 8 sc_is_machine_of.nd) (fun _ _ _ _ _ => dts_nil) (fun _ _ _ _ _ => de_bi call_len cb_len rfl (c.free 5 rfl) bo_len (dab_cons (db_v 8) (dab_nil)))))) (dab_nil))) sc_is_machine_of.nd) (dss_one (ds_ret (de_bi (cr_all rfl) cb_all rfl (c.free 7 rfl) bo_all (dab_cons (db_of (de_frz (dn_lc [("one", 9)] rfl sc_is_machine_of.nd (dj_of (di_seq (de_v 6))) (blk_of (N := ["plant", "word", "side", "most", "value", "takes", "nexts", "many", "some", "one"]) (sc := d_is_machine_of.scope) (by decide +kernel)) (by decide) (fun _ _ _ _ _ => dg_v 9 sc_is_machine_of.nd) (fun _ _ _ _ _ => dts_nil) (fun _ _ _ _ _ => de_call (ok_are_next c) bp_are_next (hr.mono (by decide)) hgd takes0 (da_cons (de_v 7) (da_cons (de_bi call_len cb_len rfl (c.free 5 rfl) bo_len (dab_cons (db_v 5) (dab_nil))) (da_cons (de_v 9) (da_nil)))) (ALen.cons (ALen.cons (ALen.cons (ALen.nil)))) rfl)))) (dab_nil))))))))))
theorem sc_is_hand_of : FnScope ["plant", "value"] ["plant", "value"] d_is_hand_of.scope := ⟨rfl, rfl, rfl, by decide +kernel, rfl, by decide +kernel, by decide +kernel⟩
def g_is_hand_of : Es := sRt (eCall F_is_machine_of (aCons (eV 0) (aCons (eC (.str "hand")) (aCons (eC (.int 0)) (aCons (eC (.int 60)) (aCons (eV 1) (aNil)))))))
def F_is_hand_of : Fn := fnOf 2 g_is_hand_of
theorem ok_is_hand_of {P : Program} {w : World} {K : PySem.W.Frag} {mg : PySem.Str → Option Value} {base : Heap} (c : C K mg base) : OkD P w K mg base d_is_hand_of ["plant", "value"] 6 F_is_hand_of :=
  OkD.mk (N := ["plant", "value"]) (f := He.ga K "is_hand_of") (fd := (c.says.def_ 15 (d := d_is_hand_of) rfl).choose) (g := g_is_hand_of) (c.glo 44 rfl) (c.says.def_ 15 (d := d_is_hand_of) rfl).choose_spec sc_is_hand_of fun cdv A outer s H E B hr hgd =>
    have hu0 := hr.units0; have hu := hr.units; have hu1 := u1_of hr; have hu65 := u65_of hr
    dss_one (ds_ret (de_call (ok_is_machine_of c) bp_is_machine_of (hr.mono (by decide)) hgd (takes_of rfl rfl rfl rfl) (da_cons (de_v 0) (da_cons (de_str) (da_cons (de_int) (da_cons (de_gi (c.int 18 rfl) rfl) (da_cons (de_v 1) (da_nil)))))) (ALen.cons (ALen.cons (ALen.cons (ALen.cons (ALen.cons (ALen.nil)))))) rfl))
theorem sc_is_weather_of : FnScope ["plant", "value"] ["plant", "value"] d_is_weather_of.scope := ⟨rfl, rfl, rfl, by decide +kernel, rfl, by decide +kernel, by decide +kernel⟩
def g_is_weather_of : Es := sRt (eCall F_is_machine_of (aCons (eV 0) (aCons (eC (.str "weather")) (aCons (eC (.int 1)) (aCons (eC (.int 400)) (aCons (eV 1) (aNil)))))))
def F_is_weather_of : Fn := fnOf 2 g_is_weather_of
theorem ok_is_weather_of {P : Program} {w : World} {K : PySem.W.Frag} {mg : PySem.Str → Option Value} {base : Heap} (c : C K mg base) : OkD P w K mg base d_is_weather_of ["plant", "value"] 6 F_is_weather_of :=
  OkD.mk (N := ["plant", "value"]) (f := He.ga K "is_weather_of") (fd := (c.says.def_ 16 (d := d_is_weather_of) rfl).choose) (g := g_is_weather_of) (c.glo 45 rfl) (c.says.def_ 16 (d := d_is_weather_of) rfl).choose_spec sc_is_weather_of fun cdv A outer s H E B hr hgd =>
    have hu0 := hr.units0; have hu := hr.units; have hu1 := u1_of hr; have hu65 := u65_of hr
    dss_one (ds_ret (de_call (ok_is_machine_of c) bp_is_machine_of (hr.mono (by decide)) hgd (takes_of rfl rfl rfl rfl) (da_cons (de_v 0) (da_cons (de_str) (da_cons (de_int) (da_cons (de_gi (c.int 19 rfl) rfl) (da_cons (de_v 1) (da_nil)))))) (ALen.cons (ALen.cons (ALen.cons (ALen.cons (ALen.cons (ALen.nil)))))) rfl))
theorem sc_want_hand : FnScope ["plant", "value"] ["plant", "value"] d_want_hand.scope := ⟨rfl, rfl, rfl, by decide +kernel, rfl, by decide +kernel, by decide +kernel⟩
def g_want_hand : Es := sSeq (sIf (bNot (toB (eCall F_is_hand_of (aCons (eV 0) (aCons (eV 1) (aNil)))))) ((fun _ _ => .no)) (sNx)) (sRt (eV 1))
def F_want_hand : Fn := fnOf 2 g_want_hand
theorem ok_want_hand {P : Program} {w : World} {K : PySem.W.Frag} {mg : PySem.Str → Option Value} {base : Heap} (c : C K mg base) : OkD P w K mg base d_want_hand ["plant", "value"] 7 F_want_hand :=
  OkD.mk (N := ["plant", "value"]) (f := He.ga K "want_hand") (fd := (c.says.def_ 17 (d := d_want_hand) rfl).choose) (g := g_want_hand) (c.glo 46 rfl) (c.says.def_ 17 (d := d_want_hand) rfl).choose_spec sc_want_hand fun cdv A outer s H E B hr hgd =>
    have hu0 := hr.units0; have hu := hr.units; have hu1 := u1_of hr; have hu65 := u65_of hr
    dss_cons (ds_if (dt_not (dt_val (de_call (ok_is_hand_of c) bp_is_hand_of (hr.mono (by decide)) hgd (takes_of rfl rfl rfl rfl) (da_cons (de_v 0) (da_cons (de_v 1) (da_nil))) (ALen.cons (ALen.cons (ALen.nil))) rfl))) (dss_one (ds_never)) (dss_nil)) (dss_one (ds_ret (de_v 1)))
theorem sc_want_weather : FnScope ["plant", "value"] ["plant", "value"] d_want_weather.scope := ⟨rfl, rfl, rfl, by decide +kernel, rfl, by decide +kernel, by decide +kernel⟩
def g_want_weather : Es := sSeq (sIf (bNot (toB (eCall F_is_weather_of (aCons (eV 0) (aCons (eV 1) (aNil)))))) ((fun _ _ => .no)) (sNx)) (sRt (eV 1))
def F_want_weather : Fn := fnOf 2 g_want_weather
theorem ok_want_weather {P : Program} {w : World} {K : PySem.W.Frag} {mg : PySem.Str → Option Value} {base : Heap} (c : C K mg base) : OkD P w K mg base d_want_weather ["plant", "value"] 7 F_want_weather :=
  OkD.mk (N := ["plant", "value"]) (f := He.ga K "want_weather") (fd := (c.says.def_ 18 (d := d_want_weather) rfl).choose) (g := g_want_weather) (c.glo 47 rfl) (c.says.def_ 18 (d := d_want_weather) rfl).choose_spec sc_want_weather fun cdv A outer s H E B hr hgd =>
    have hu0 := hr.units0; have hu := hr.units; have hu1 := u1_of hr; have hu65 := u65_of hr
    dss_cons (ds_if (dt_not (dt_val (de_call (ok_is_weather_of c) bp_is_weather_of (hr.mono (by decide)) hgd (takes_of rfl rfl rfl rfl) (da_cons (de_v 0) (da_cons (de_v 1) (da_nil))) (ALen.cons (ALen.cons (ALen.nil))) rfl))) (dss_one (ds_never)) (dss_nil)) (dss_one (ds_ret (de_v 1)))
theorem sc_numbers_along : FnScope ["plant", "numbers", "side", "machine", "place", "memory"] ["plant", "numbers", "side", "machine", "place", "memory"] d_numbers_along.scope := ⟨rfl, rfl, rfl, by decide +kernel, rfl, by decide +kernel, by decide +kernel⟩
def g_numbers_along : Es := sSeq (sIf (toB (eBin2 oNe (eBin2 oIx (eBin2 oIx (eVb 0) (eC (.int 2))) (eVb 4)) (eVb 2))) (sRt (eBin2 oIx (eVb 1) (eVb 4))) (sNx)) (sRt (eFrz (nLst (aCons (eBin2 oIx (eBin2 oIx (eVb 1) (eVb 4)) (eBin2 oIx (eBin2 oIx (eBin2 oIx (eVb 3) (eC (.int 1))) (eVb 5)) (eVb 4))) (aNil)))))
def F_numbers_along : Fn := fnOf 6 g_numbers_along
theorem ok_numbers_along {P : Program} {w : World} {K : PySem.W.Frag} {mg : PySem.Str → Option Value} {base : Heap} (c : C K mg base) : OkD P w K mg base d_numbers_along ["plant", "numbers", "side", "machine", "place", "memory"] 1 F_numbers_along :=
  OkD.mk (N := ["plant", "numbers", "side", "machine", "place", "memory"]) (f := He.ga K "numbers_along") (fd := (c.says.def_ 19 (d := d_numbers_along) rfl).choose) (g := g_numbers_along) (c.glo 48 rfl) (c.says.def_ 19 (d := d_numbers_along) rfl).choose_spec sc_numbers_along fun cdv A outer s H E B hr hgd =>
    have hu0 := hr.units0; have hu := hr.units; have hu1 := u1_of hr; have hu65 := u65_of hr
    dss_cons (ds_if (dt_cmp2 (op_ne.or (op_neD hu)) opb_ne (db_of (de_ix (db_of (de_ix (db_v 0) (db_of (de_int)))) (db_v 4))) (db_v 2)) (dss_one (ds_ret (de_ix (db_v 1) (db_v 4)))) (dss_nil)) (dss_one (ds_ret (de_frz (dn_lst (da_cons (de_ix (db_of (de_ix (db_v 1) (db_v 4))) (db_of (de_ix (db_of (de_ix (db_of (de_ix (db_v 3) (db_of (de_int)))) (db_v 5))) (db_v 4)))) (da_nil))))))
theorem sc_want_machines : FnScope ["plant", "hand", "weather"] ["plant", "hand", "weather"] d_want_machines.scope := ⟨rfl, rfl, rfl, by decide +kernel, rfl, by decide +kernel, by decide +kernel⟩
def g_want_machines : Es := sSeq (sDr (eCall F_want_plant (aCons (eV 0) (aNil)))) (sSeq (sDr (eCall F_want_hand (aCons (eV 0) (aCons (eV 1) (aNil))))) (sDr (eCall F_want_weather (aCons (eV 0) (aCons (eV 2) (aNil))))))
def F_want_machines : Fn := fnOf 3 g_want_machines
theorem ok_want_machines {P : Program} {w : World} {K : PySem.W.Frag} {mg : PySem.Str → Option Value} {base : Heap} (c : C K mg base) : OkD P w K mg base d_want_machines ["plant", "hand", "weather"] 8 F_want_machines :=
  OkD.mk (N := ["plant", "hand", "weather"]) (f := He.ga K "want_machines") (fd := (c.says.def_ 20 (d := d_want_machines) rfl).choose) (g := g_want_machines) (c.glo 49 rfl) (c.says.def_ 20 (d := d_want_machines) rfl).choose_spec sc_want_machines fun cdv A outer s H E B hr hgd =>
    have hu0 := hr.units0; have hu := hr.units; have hu1 := u1_of hr; have hu65 := u65_of hr
    dss_cons (ds_expr (de_call (ok_want_plant c) bp_want_plant (hr.mono (by decide)) hgd (takes_of rfl rfl rfl rfl) (da_cons (de_v 0) (da_nil)) (ALen.cons (ALen.nil)) rfl)) (dss_cons (ds_expr (de_call (ok_want_hand c) bp_want_hand (hr.mono (by decide)) hgd (takes_of rfl rfl rfl rfl) (da_cons (de_v 0) (da_cons (de_v 1) (da_nil))) (ALen.cons (ALen.cons (ALen.nil))) rfl)) (dss_one (ds_expr (de_call (ok_want_weather c) bp_want_weather (hr.mono (by decide)) hgd (takes_of rfl rfl rfl rfl) (da_cons (de_v 0) (da_cons (de_v 2) (da_nil))) (ALen.cons (ALen.cons (ALen.nil))) rfl))))
theorem sc_want_many : FnScope ["value"] ["value"] d_want_many.scope := ⟨rfl, rfl, rfl, by decide +kernel, rfl, by decide +kernel, by decide +kernel⟩
def g_want_many : Es := sIf (bOr (bNot (toB (eCall F_is_count (aCons (eV 0) (aNil))))) (toB (eBin2 oGt (eVb 0) (eC (.int 1000000000000000000000000000000))))) ((fun _ _ => .no)) (sNx)
def F_want_many : Fn := fnOf 1 g_want_many
theorem ok_want_many {P : Program} {w : World} {K : PySem.W.Frag} {mg : PySem.Str → Option Value} {base : Heap} (c : C K mg base) : OkD P w K mg base d_want_many ["value"] 3 F_want_many :=
  OkD.mk (N := ["value"]) (f := He.ga K "want_many") (fd := (c.says.def_ 21 (d := d_want_many) rfl).choose) (g := g_want_many) (c.glo 50 rfl) (c.says.def_ 21 (d := d_want_many) rfl).choose_spec sc_want_many fun cdv A outer s H E B hr hgd =>
    have hu0 := hr.units0; have hu := hr.units; have hu1 := u1_of hr; have hu65 := u65_of hr
    dss_one (ds_if (dt_w (dw_or (dt_not (dt_val (de_call (ok_is_count c) bp_is_count (hr.mono (by decide)) hgd (takes_of rfl rfl rfl rfl) (da_cons (de_v 0) (da_nil)) (ALen.cons (ALen.nil)) rfl))) (dw_or1 (dt_cmp2 op_gt opb_gt (db_v 0) (db_of (de_gi (c.int 20 rfl) rfl)))))) (dss_one (ds_never)) (dss_nil))
theorem sc_move_at : FnScope ["plant", "numbers", "hand", "weather", "triple", "place", "memory", "other"] ["plant", "numbers", "hand", "weather", "triple"] d_move_at.scope := ⟨rfl, rfl, rfl, by decide +kernel, rfl, by decide +kernel, by decide +kernel⟩
def g_move_at : Es := sSeq (sUnp (gT 3 (gConsR (gV 5) (gConsR (gV 6) (gConsR (gV 7) (gNilR)))) ((gV 5).ix ++ ((gV 6).ix ++ ((gV 7).ix ++ [])))) (eV 4)) (sSeq (sIf (toB (eBin2 oEq (eBin2 oIx (eBin2 oIx (eVb 0) (eC (.int 2))) (eVb 5)) (eC (.int 0)))) (sRt (eBin2 oIx (eCall F_numbers_along (aCons (eV 0) (aCons (eV 1) (aCons (eC (.int 0)) (aCons (eV 2) (aCons (eV 5) (aCons (eV 6) (aNil)))))))) (eC (.int 0)))) (sNx)) (sRt (eBin2 oIx (eCall F_numbers_along (aCons (eV 0) (aCons (eV 1) (aCons (eC (.int 1)) (aCons (eV 3) (aCons (eV 5) (aCons (eV 7) (aNil)))))))) (eC (.int 0)))))
def F_move_at : Fn := fnOf 8 g_move_at
theorem ok_move_at {P : Program} {w : World} {K : PySem.W.Frag} {mg : PySem.Str → Option Value} {base : Heap} (c : C K mg base) : OkD P w K mg base d_move_at ["plant", "numbers", "hand", "weather", "triple"] 2 F_move_at :=
  OkD.mk (N := ["plant", "numbers", "hand", "weather", "triple", "place", "memory", "other"]) (f := He.ga K "move_at") (fd := (c.says.def_ 22 (d := d_move_at) rfl).choose) (g := g_move_at) (c.glo 51 rfl) (c.says.def_ 22 (d := d_move_at) rfl).choose_spec sc_move_at fun cdv A outer s H E B hr hgd =>
    have hu0 := hr.units0; have hu := hr.units; have hu1 := u1_of hr; have hu65 := u65_of hr
    dss_cons (ds_unp (de_v 4) (dg_t rfl (dgs_cons (dg_v 5 sc_move_at.nd) (dgs_cons (dg_v 6 sc_move_at.nd) (dgs_cons (dg_v 7 sc_move_at.nd) (dgs_nil)))))) (dss_cons (ds_if (dt_cmp2 (op_eq.or (op_eqD hu)) opb_eq (db_of (de_ix (db_of (de_ix (db_v 0) (db_of (de_int)))) (db_v 5))) (db_of (de_int))) (dss_one (ds_ret (de_ix (db_of (de_call (ok_numbers_along c) bp_numbers_along (hr.mono (by decide)) hgd (takes_of rfl rfl rfl rfl) (da_cons (de_v 0) (da_cons (de_v 1) (da_cons (de_int) (da_cons (de_v 2) (da_cons (de_v 5) (da_cons (de_v 6) (da_nil))))))) (ALen.cons (ALen.cons (ALen.cons (ALen.cons (ALen.cons (ALen.cons (ALen.nil))))))) rfl)) (db_of (de_int))))) (dss_nil)) (dss_one (ds_ret (de_ix (db_of (de_call (ok_numbers_along c) bp_numbers_along (hr.mono (by decide)) hgd (takes_of rfl rfl rfl rfl) (da_cons (de_v 0) (da_cons (de_v 1) (da_cons (de_int) (da_cons (de_v 3) (da_cons (de_v 5) (da_cons (de_v 7) (da_nil))))))) (ALen.cons (ALen.cons (ALen.cons (ALen.cons (ALen.cons (ALen.cons (ALen.nil))))))) rfl)) (db_of (de_int))))))
theorem sc_course_of : FnScope ["plant", "hand", "weather", "moves", "numbers", "triple", "met", "row", "number"] ["plant", "hand", "weather"] d_course_of.scope := ⟨rfl, rfl, rfl, by decide +kernel, rfl, by decide +kernel, by decide +kernel⟩
def wc1_course_of : Ev Bool := bDIn true 6 (eV 5)
def wb1_course_of : Es := sSeq (DL.sDPut 6 (eV 5) (eFn bLen (aCons (eVb 7) (aNil)))) (sSeq (sDr (eCall F_want_at_most (aCons (eC (.str "places")) (aCons (eC (.int 2400)) (aCons (eDLen 6) (aNil)))))) (sSeq (sSet 8 (eCall F_move_at (aCons (eV 0) (aCons (eV 4) (aCons (eV 1) (aCons (eV 2) (aCons (eV 5) (aNil)))))))) (sSeq (sMu 7 mApp (eV 8)) (sSet 5 (eTup (aCons (eBin2 oIx (eBin2 oIx (eVb 3) (eVb 8)) (eC (.int 2))) (aCons (eBin2 oIx (eBin2 oIx (eBin2 oIx (eVb 1) (eC (.int 2))) (eBin2 oIx (eVb 5) (eC (.int 1)))) (eVb 8)) (aCons (eBin2 oIx (eBin2 oIx (eBin2 oIx (eVb 2) (eC (.int 2))) (eBin2 oIx (eVb 5) (eC (.int 2)))) (eVb 8)) (aNil)))))))))
def g_course_of : Es := sSeq (sPar [3, 4, 5, 6, 7] (mVal (eCall F_moves_of (aCons (eV 0) (aNil))) (mVal (eCall F_numbers_of (aCons (eV 0) (aNil))) (mVal (eTup (aCons (eC (.int 0)) (aCons (eC (.int 0)) (aCons (eC (.int 0)) (aNil))))) (mNew (nDT) (mNew (nLst (aNil)) (mNil))))))) (sSeq (sWhile 2410 (wc1_course_of) (wb1_course_of)) (sSeq (sFz 7) (sRt (eTup (aCons (eSl (eVb 7) (pNo) (pAt (eDGet 6 (eV 5)))) (aCons (eSl (eVb 7) (pAt (eDGet 6 (eV 5))) (pNo)) (aNil)))))))
def F_course_of : Fn := fnOf 9 g_course_of
theorem ok_course_of {P : Program} {w : World} {K : PySem.W.Frag} {mg : PySem.Str → Option Value} {base : Heap} (c : C K mg base) : OkD P w K mg base d_course_of ["plant", "hand", "weather"] 4 F_course_of :=
  OkD.mk (N := ["plant", "hand", "weather", "moves", "numbers", "triple", "met", "row", "number"]) (f := He.ga K "course_of") (fd := (c.says.def_ 23 (d := d_course_of) rfl).choose) (g := g_course_of) (c.glo 52 rfl) (c.says.def_ 23 (d := d_course_of) rfl).choose_spec sc_course_of fun cdv A outer s H E B hr hgd =>
    have hu0 := hr.units0; have hu := hr.units; have hu1 := u1_of hr; have hu65 := u65_of hr
    dss_cons (ds_parN rfl (dm_val (de_call (ok_moves_of c) bp_moves_of (hr.mono (by decide)) hgd (takes_of rfl rfl rfl rfl) (da_cons (de_v 0) (da_nil)) (ALen.cons (ALen.nil)) rfl) (dm_val (de_call (ok_numbers_of c) bp_numbers_of (hr.mono (by decide)) hgd (takes_of rfl rfl rfl rfl) (da_cons (de_v 0) (da_nil)) (ALen.cons (ALen.nil)) rfl) (dm_val (de_tup (da_cons (de_int) (da_cons (de_int) (da_cons (de_int) (da_nil))))) (dm_new (dn_dT) (dm_new (dn_lst (da_nil)) (dm_nil)))))) (nm_cons 3 sc_course_of.nd (nm_cons 4 sc_course_of.nd (nm_cons 5 sc_course_of.nd (nm_cons 6 sc_course_of.nd (nm_cons 7 sc_course_of.nd (nm_nil))))))) (dss_cons (ds_while 2410 (passes_of rfl) (dt_dnin 6 hu1 (de_v 5)) (dss_cons (ds_dput 6 hu1 (de_v 5) (de_bi call_len cb_len rfl (c.free 5 rfl) bo_len (dab_cons (db_v 7) (dab_nil)))) (dss_cons (ds_expr (de_call (ok_want_at_most c) bp_want_at_most (hr.mono (by decide)) hgd (takes_of rfl rfl rfl rfl) (da_cons (de_str) (da_cons (de_gi (c.int 21 rfl) rfl) (da_cons (de_dlen 6 rfl (c.free 5 rfl)) (da_nil)))) (ALen.cons (ALen.cons (ALen.cons (ALen.nil)))) rfl)) (dss_cons (ds_set 8 (de_call (ok_move_at c) bp_move_at (hr.mono (by decide)) hgd (takes_of rfl rfl rfl rfl) (da_cons (de_v 0) (da_cons (de_v 4) (da_cons (de_v 1) (da_cons (de_v 2) (da_cons (de_v 5) (da_nil)))))) (ALen.cons (ALen.cons (ALen.cons (ALen.cons (ALen.cons (ALen.nil)))))) rfl) sc_course_of.nd) (dss_cons (ds_app 7 (de_v 8)) (dss_one (ds_set 5 (de_tup (da_cons (de_ix (db_of (de_ix (db_v 3) (db_v 8))) (db_of (de_int))) (da_cons (de_ix (db_of (de_ix (db_of (de_ix (db_v 1) (db_of (de_int)))) (db_of (de_ix (db_v 5) (db_of (de_int)))))) (db_v 8)) (da_cons (de_ix (db_of (de_ix (db_of (de_ix (db_v 2) (db_of (de_int)))) (db_of (de_ix (db_v 5) (db_of (de_int)))))) (db_v 8)) (da_nil))))) sc_course_of.nd))))))) (dss_fz (dss_one (ds_ret (de_tup (da_cons (de_sl (db_v 7) (do_no) (do_at (db_of (de_dget 6 hu1 (de_v 5))))) (da_cons (de_sl (db_v 7) (do_at (db_of (de_dget 6 hu1 (de_v 5)))) (do_no)) (da_nil))))))))
def wc1_course_of_p : Ev Bool := bDIn true 6 (eV 5)
def wb1_course_of_p : Es := sSeq (DL.sDPut 6 (eV 5) (eFn bLen (aCons (eVb 7) (aNil)))) (sSeq (sDr (eCall F_want_at_most (aCons (eC (.str "places")) (aCons (eC (.int 2400)) (aCons (eDLen 6) (aNil)))))) (sSeq (sSet 8 (eCall F_move_at (aCons (eV 0) (aCons (eV 4) (aCons (eV 1) (aCons (eV 2) (aCons (eV 5) (aNil)))))))) (sSeq (sMu 7 mApp (eV 8)) (sSet 5 (eTup (aCons (eBin2 oIx (eBin2 oIx (eVb 3) (eVb 8)) (eC (.int 2))) (aCons (eBin2 oIx (eBin2 oIx (eBin2 oIx (eVb 1) (eC (.int 2))) (eBin2 oIx (eVb 5) (eC (.int 1)))) (eVb 8)) (aCons (eBin2 oIx (eBin2 oIx (eBin2 oIx (eVb 2) (eC (.int 2))) (eBin2 oIx (eVb 5) (eC (.int 2)))) (eVb 8)) (aNil)))))))))
def g_course_of_p : Es := sSeq (sPar [3, 4, 5, 6, 7] (mVal (eCall F_moves_of (aCons (eV 0) (aNil))) (mVal (eCall F_numbers_of (aCons (eV 0) (aNil))) (mVal (eTup (aCons (eC (.int 0)) (aCons (eC (.int 0)) (aCons (eC (.int 0)) (aNil))))) (mNew (nDT) (mNew (nLst (aNil)) (mNil))))))) (sSeq (sWhile 2410 (wc1_course_of_p) (wb1_course_of_p)) (sSeq (sFz 7) (sRt (eTup (aCons (ePb (nSl (eVb 7) (pNo) (pAt (eDGet 6 (eV 5))))) (aCons (ePb (nSl (eVb 7) (pAt (eDGet 6 (eV 5))) (pNo))) (aNil)))))))
def F_course_of_p : Fn := fnOf 9 g_course_of_p
theorem ok_course_of_p {P : Program} {w : World} {K : PySem.W.Frag} {mg : PySem.Str → Option Value} {base : Heap} (c : C K mg base) : OkD P w K mg base d_course_of ["plant", "hand", "weather"] 4 F_course_of_p :=
  OkD.mk (N := ["plant", "hand", "weather", "moves", "numbers", "triple", "met", "row", "number"]) (f := He.ga K "course_of") (fd := (c.says.def_ 23 (d := d_course_of) rfl).choose) (g := g_course_of_p) (c.glo 52 rfl) (c.says.def_ 23 (d := d_course_of) rfl).choose_spec sc_course_of fun cdv A outer s H E B hr hgd =>
    have hu0 := hr.units0; have hu := hr.units; have hu1 := u1_of hr; have hu65 := u65_of hr
    dss_cons (ds_parN rfl (dm_val (de_call (ok_moves_of c) bp_moves_of (hr.mono (by decide)) hgd (takes_of rfl rfl rfl rfl) (da_cons (de_v 0) (da_nil)) (ALen.cons (ALen.nil)) rfl) (dm_val (de_call (ok_numbers_of c) bp_numbers_of (hr.mono (by decide)) hgd (takes_of rfl rfl rfl rfl) (da_cons (de_v 0) (da_nil)) (ALen.cons (ALen.nil)) rfl) (dm_val (de_tup (da_cons (de_int) (da_cons (de_int) (da_cons (de_int) (da_nil))))) (dm_new (dn_dT) (dm_new (dn_lst (da_nil)) (dm_nil)))))) (nm_cons 3 sc_course_of.nd (nm_cons 4 sc_course_of.nd (nm_cons 5 sc_course_of.nd (nm_cons 6 sc_course_of.nd (nm_cons 7 sc_course_of.nd (nm_nil))))))) (dss_cons (ds_while 2410 (passes_of rfl) (dt_dnin 6 hu1 (de_v 5)) (dss_cons (ds_dput 6 hu1 (de_v 5) (de_bi call_len cb_len rfl (c.free 5 rfl) bo_len (dab_cons (db_v 7) (dab_nil)))) (dss_cons (ds_expr (de_call (ok_want_at_most c) bp_want_at_most (hr.mono (by decide)) hgd (takes_of rfl rfl rfl rfl) (da_cons (de_str) (da_cons (de_gi (c.int 21 rfl) rfl) (da_cons (de_dlen 6 rfl (c.free 5 rfl)) (da_nil)))) (ALen.cons (ALen.cons (ALen.cons (ALen.nil)))) rfl)) (dss_cons (ds_set 8 (de_call (ok_move_at c) bp_move_at (hr.mono (by decide)) hgd (takes_of rfl rfl rfl rfl) (da_cons (de_v 0) (da_cons (de_v 4) (da_cons (de_v 1) (da_cons (de_v 2) (da_cons (de_v 5) (da_nil)))))) (ALen.cons (ALen.cons (ALen.cons (ALen.cons (ALen.cons (ALen.nil)))))) rfl) sc_course_of.nd) (dss_cons (ds_app 7 (de_v 8)) (dss_one (ds_set 5 (de_tup (da_cons (de_ix (db_of (de_ix (db_v 3) (db_v 8))) (db_of (de_int))) (da_cons (de_ix (db_of (de_ix (db_of (de_ix (db_v 1) (db_of (de_int)))) (db_of (de_ix (db_v 5) (db_of (de_int)))))) (db_v 8)) (da_cons (de_ix (db_of (de_ix (db_of (de_ix (db_v 2) (db_of (de_int)))) (db_of (de_ix (db_v 5) (db_of (de_int)))))) (db_v 8)) (da_nil))))) sc_course_of.nd))))))) (dss_fz (dss_one (ds_ret (de_tup (da_cons (de_pb (dn_sl (db_v 7) (do_no) (do_at (db_of (de_dget 6 hu1 (de_v 5)))))) (da_cons (de_pb (dn_sl (db_v 7) (do_at (db_of (de_dget 6 hu1 (de_v 5)))) (do_no))) (da_nil))))))))
theorem sc_at_course : FnScope ["told", "at", "head", "loop"] ["told", "at"] d_at_course.scope := ⟨rfl, rfl, rfl, by decide +kernel, rfl, by decide +kernel, by decide +kernel⟩
def g_at_course : Es := sSeq (sUnp (gT 2 (gConsR (gV 2) (gConsR (gV 3) (gNilR))) ((gV 2).ix ++ ((gV 3).ix ++ []))) (eV 0)) (sRt (eIf (toB (eBin2 oLt (eVb 1) (eFn bLen (aCons (eVb 2) (aNil))))) (eBin2 oIx (eVb 2) (eVb 1)) (eBin2 oIx (eVb 3) (eBin2 oMod (eBin2 oSub (eVb 1) (eFn bLen (aCons (eVb 2) (aNil)))) (eFn bLen (aCons (eVb 3) (aNil)))))))
def F_at_course : Fn := fnOf 4 g_at_course
theorem ok_at_course {P : Program} {w : World} {K : PySem.W.Frag} {mg : PySem.Str → Option Value} {base : Heap} (c : C K mg base) : OkD P w K mg base d_at_course ["told", "at"] 1 F_at_course :=
  OkD.mk (N := ["told", "at", "head", "loop"]) (f := He.ga K "at_course") (fd := (c.says.def_ 24 (d := d_at_course) rfl).choose) (g := g_at_course) (c.glo 53 rfl) (c.says.def_ 24 (d := d_at_course) rfl).choose_spec sc_at_course fun cdv A outer s H E B hr hgd =>
    have hu0 := hr.units0; have hu := hr.units; have hu1 := u1_of hr; have hu65 := u65_of hr
    dss_cons (ds_unp (de_v 0) (dg_t rfl (dgs_cons (dg_v 2 sc_at_course.nd) (dgs_cons (dg_v 3 sc_at_course.nd) (dgs_nil))))) (dss_one (ds_ret (de_if (dt_cmp2 (op_lt.or (op_ltT hu0)) opb_lt (db_v 1) (db_of (de_bi call_len cb_len rfl (c.free 5 rfl) bo_len (dab_cons (db_v 2) (dab_nil))))) (de_ix (db_v 2) (db_v 1)) (de_ix (db_v 3) (db_of (de_mod (db_of (de_sub (db_v 1) (db_of (de_bi call_len cb_len rfl (c.free 5 rfl) bo_len (dab_cons (db_v 2) (dab_nil)))))) (db_of (de_bi call_len cb_len rfl (c.free 5 rfl) bo_len (dab_cons (db_v 3) (dab_nil))))))))))
theorem sc_sum_along : FnScope ["told", "many", "head", "loop", "rounds", "rest"] ["told", "many"] d_sum_along.scope := ⟨rfl, rfl, rfl, by decide +kernel, rfl, by decide +kernel, by decide +kernel⟩
def g_sum_along : Es := sSeq (sUnp (gT 2 (gConsR (gV 2) (gConsR (gV 3) (gNilR))) ((gV 2).ix ++ ((gV 3).ix ++ []))) (eV 0)) (sSeq (sIf (toB (eBin2 oLe (eVb 1) (eFn bLen (aCons (eVb 2) (aNil))))) (sRt (eFn bSum (aCons (eSl (eVb 2) (pNo) (pAt (eVb 1))) (aNil)))) (sNx)) (sSeq (sUnp (gT 2 (gConsR (gV 4) (gConsR (gV 5) (gNilR))) ((gV 4).ix ++ ((gV 5).ix ++ []))) (eFn bDm (aCons (eBin2 oSub (eVb 1) (eFn bLen (aCons (eVb 2) (aNil)))) (aCons (eFn bLen (aCons (eVb 3) (aNil))) (aNil))))) (sRt (eBin2 oAdd (eBin2 oAdd (eFn bSum (aCons (eVb 2) (aNil))) (eBin2 oMul (eVb 4) (eFn bSum (aCons (eVb 3) (aNil))))) (eFn bSum (aCons (eSl (eVb 3) (pNo) (pAt (eVb 5))) (aNil)))))))
def F_sum_along : Fn := fnOf 6 g_sum_along
theorem ok_sum_along {P : Program} {w : World} {K : PySem.W.Frag} {mg : PySem.Str → Option Value} {base : Heap} (c : C K mg base) : OkD P w K mg base d_sum_along ["told", "many"] 1 F_sum_along :=
  OkD.mk (N := ["told", "many", "head", "loop", "rounds", "rest"]) (f := He.ga K "sum_along") (fd := (c.says.def_ 25 (d := d_sum_along) rfl).choose) (g := g_sum_along) (c.glo 54 rfl) (c.says.def_ 25 (d := d_sum_along) rfl).choose_spec sc_sum_along fun cdv A outer s H E B hr hgd =>
    have hu0 := hr.units0; have hu := hr.units; have hu1 := u1_of hr; have hu65 := u65_of hr
    dss_cons (ds_unp (de_v 0) (dg_t rfl (dgs_cons (dg_v 2 sc_sum_along.nd) (dgs_cons (dg_v 3 sc_sum_along.nd) (dgs_nil))))) (dss_cons (ds_if (dt_cmp2 op_le opb_le (db_v 1) (db_of (de_bi call_len cb_len rfl (c.free 5 rfl) bo_len (dab_cons (db_v 2) (dab_nil))))) (dss_one (ds_ret (de_bi (cr_sum rfl) cb_sum rfl (c.free 12 rfl) bo_sum (dab_cons (db_of (de_sl (db_v 2) (do_no) (do_at (db_v 1)))) (dab_nil))))) (dss_nil)) (dss_cons (ds_unp (de_bi call_divmod cb_dm rfl (c.free 22 rfl) bo_divmod (dab_cons (db_of (de_sub (db_v 1) (db_of (de_bi call_len cb_len rfl (c.free 5 rfl) bo_len (dab_cons (db_v 2) (dab_nil)))))) (dab_cons (db_of (de_bi call_len cb_len rfl (c.free 5 rfl) bo_len (dab_cons (db_v 3) (dab_nil)))) (dab_nil)))) (dg_t rfl (dgs_cons (dg_v 4 sc_sum_along.nd) (dgs_cons (dg_v 5 sc_sum_along.nd) (dgs_nil))))) (dss_one (ds_ret (de_add (db_of (de_add (db_of (de_bi (cr_sum rfl) cb_sum rfl (c.free 12 rfl) bo_sum (dab_cons (db_v 2) (dab_nil)))) (db_of (de_mul (db_v 4) (db_of (de_bi (cr_sum rfl) cb_sum rfl (c.free 12 rfl) bo_sum (dab_cons (db_v 3) (dab_nil)))))))) (db_of (de_bi (cr_sum rfl) cb_sum rfl (c.free 12 rfl) bo_sum (dab_cons (db_of (de_sl (db_v 3) (do_no) (do_at (db_v 5)))) (dab_nil)))))))))
theorem sc_course : FnScope ["plant", "hand", "weather"] ["plant", "hand", "weather"] d_course.scope := ⟨rfl, rfl, rfl, by decide +kernel, rfl, by decide +kernel, by decide +kernel⟩
def g_course : Es := sSeq (sDr (eCall F_want_machines (aCons (eV 0) (aCons (eV 1) (aCons (eV 2) (aNil)))))) (sRt (eCall F_course_of (aCons (eV 0) (aCons (eV 1) (aCons (eV 2) (aNil))))))
def F_course : Fn := fnOf 3 g_course
theorem ok_course {P : Program} {w : World} {K : PySem.W.Frag} {mg : PySem.Str → Option Value} {base : Heap} (c : C K mg base) : OkD P w K mg base d_course ["plant", "hand", "weather"] 9 F_course :=
  OkD.mk (N := ["plant", "hand", "weather"]) (f := He.ga K "course") (fd := (c.says.def_ 26 (d := d_course) rfl).choose) (g := g_course) (c.glo 55 rfl) (c.says.def_ 26 (d := d_course) rfl).choose_spec sc_course fun cdv A outer s H E B hr hgd =>
    have hu0 := hr.units0; have hu := hr.units; have hu1 := u1_of hr; have hu65 := u65_of hr
    dss_cons (ds_expr (de_call (ok_want_machines c) bp_want_machines (hr.mono (by decide)) hgd (takes_of rfl rfl rfl rfl) (da_cons (de_v 0) (da_cons (de_v 1) (da_cons (de_v 2) (da_nil)))) (ALen.cons (ALen.cons (ALen.cons (ALen.nil)))) rfl)) (dss_one (ds_ret (de_call (ok_course_of c) bp_course_of (hr.mono (by decide)) hgd (takes_of rfl rfl rfl rfl) (da_cons (de_v 0) (da_cons (de_v 1) (da_cons (de_v 2) (da_nil)))) (ALen.cons (ALen.cons (ALen.cons (ALen.nil)))) rfl)))
def g_course_p : Es := sSeq (sDr (eCall F_want_machines (aCons (eV 0) (aCons (eV 1) (aCons (eV 2) (aNil)))))) (sRt (eCall F_course_of_p (aCons (eV 0) (aCons (eV 1) (aCons (eV 2) (aNil))))))
def F_course_p : Fn := fnOf 3 g_course_p
theorem ok_course_p {P : Program} {w : World} {K : PySem.W.Frag} {mg : PySem.Str → Option Value} {base : Heap} (c : C K mg base) : OkD P w K mg base d_course ["plant", "hand", "weather"] 9 F_course_p :=
  OkD.mk (N := ["plant", "hand", "weather"]) (f := He.ga K "course") (fd := (c.says.def_ 26 (d := d_course) rfl).choose) (g := g_course_p) (c.glo 55 rfl) (c.says.def_ 26 (d := d_course) rfl).choose_spec sc_course fun cdv A outer s H E B hr hgd =>
    have hu0 := hr.units0; have hu := hr.units; have hu1 := u1_of hr; have hu65 := u65_of hr
    dss_cons (ds_expr (de_call (ok_want_machines c) bp_want_machines (hr.mono (by decide)) hgd (takes_of rfl rfl rfl rfl) (da_cons (de_v 0) (da_cons (de_v 1) (da_cons (de_v 2) (da_nil)))) (ALen.cons (ALen.cons (ALen.cons (ALen.nil)))) rfl)) (dss_one (ds_ret (de_call (ok_course_of_p c) bp_course_of (hr.mono (by decide)) hgd (takes_of rfl rfl rfl rfl) (da_cons (de_v 0) (da_cons (de_v 1) (da_cons (de_v 2) (da_nil)))) (ALen.cons (ALen.cons (ALen.cons (ALen.nil)))) rfl)))
theorem sc_place_behind : FnScope ["plant", "hand", "weather", "many", "told"] ["plant", "hand", "weather", "many"] d_place_behind.scope := ⟨rfl, rfl, rfl, by decide +kernel, rfl, by decide +kernel, by decide +kernel⟩
def g_place_behind : Es := sSeq (sDr (eCall F_want_machines (aCons (eV 0) (aCons (eV 1) (aCons (eV 2) (aNil)))))) (sSeq (sDr (eCall F_want_many (aCons (eV 3) (aNil)))) (sSeq (sSet 4 (eCall F_course_of (aCons (eV 0) (aCons (eV 1) (aCons (eV 2) (aNil)))))) (sRt (eBin2 oIx (eBin2 oIx (eCall F_moves_of (aCons (eV 0) (aNil))) (eCall F_at_course (aCons (eV 4) (aCons (eV 3) (aNil))))) (eC (.int 0))))))
def F_place_behind : Fn := fnOf 5 g_place_behind
theorem ok_place_behind {P : Program} {w : World} {K : PySem.W.Frag} {mg : PySem.Str → Option Value} {base : Heap} (c : C K mg base) : OkD P w K mg base d_place_behind ["plant", "hand", "weather", "many"] 9 F_place_behind :=
  OkD.mk (N := ["plant", "hand", "weather", "many", "told"]) (f := He.ga K "place_behind") (fd := (c.says.def_ 27 (d := d_place_behind) rfl).choose) (g := g_place_behind) (c.glo 56 rfl) (c.says.def_ 27 (d := d_place_behind) rfl).choose_spec sc_place_behind fun cdv A outer s H E B hr hgd =>
    have hu0 := hr.units0; have hu := hr.units; have hu1 := u1_of hr; have hu65 := u65_of hr
    dss_cons (ds_expr (de_call (ok_want_machines c) bp_want_machines (hr.mono (by decide)) hgd (takes_of rfl rfl rfl rfl) (da_cons (de_v 0) (da_cons (de_v 1) (da_cons (de_v 2) (da_nil)))) (ALen.cons (ALen.cons (ALen.cons (ALen.nil)))) rfl)) (dss_cons (ds_expr (de_call (ok_want_many c) bp_want_many (hr.mono (by decide)) hgd (takes_of rfl rfl rfl rfl) (da_cons (de_v 3) (da_nil)) (ALen.cons (ALen.nil)) rfl)) (dss_cons (ds_set 4 (de_call (ok_course_of c) bp_course_of (hr.mono (by decide)) hgd (takes_of rfl rfl rfl rfl) (da_cons (de_v 0) (da_cons (de_v 1) (da_cons (de_v 2) (da_nil)))) (ALen.cons (ALen.cons (ALen.cons (ALen.nil)))) rfl) sc_place_behind.nd) (dss_one (ds_ret (de_ix (db_of (de_ix (db_of (de_call (ok_moves_of c) bp_moves_of (hr.mono (by decide)) hgd (takes_of rfl rfl rfl rfl) (da_cons (de_v 0) (da_nil)) (ALen.cons (ALen.nil)) rfl)) (db_of (de_call (ok_at_course c) bp_at_course (hr.mono (by decide)) hgd (takes_of rfl rfl rfl rfl) (da_cons (de_v 4) (da_cons (de_v 3) (da_nil))) (ALen.cons (ALen.cons (ALen.nil))) rfl)))) (db_of (de_int)))))))
theorem sc_letter_at : FnScope ["plant", "hand", "weather", "at"] ["plant", "hand", "weather", "at"] d_letter_at.scope := ⟨rfl, rfl, rfl, by decide +kernel, rfl, by decide +kernel, by decide +kernel⟩
def g_letter_at : Es := sSeq (sDr (eCall F_want_machines (aCons (eV 0) (aCons (eV 1) (aCons (eV 2) (aNil)))))) (sSeq (sDr (eCall F_want_many (aCons (eV 3) (aNil)))) (sRt (eBin2 oIx (eBin2 oIx (eCall F_moves_of (aCons (eV 0) (aNil))) (eCall F_at_course (aCons (eCall F_course_of (aCons (eV 0) (aCons (eV 1) (aCons (eV 2) (aNil))))) (aCons (eV 3) (aNil))))) (eC (.int 1)))))
def F_letter_at : Fn := fnOf 4 g_letter_at
theorem ok_letter_at {P : Program} {w : World} {K : PySem.W.Frag} {mg : PySem.Str → Option Value} {base : Heap} (c : C K mg base) : OkD P w K mg base d_letter_at ["plant", "hand", "weather", "at"] 9 F_letter_at :=
  OkD.mk (N := ["plant", "hand", "weather", "at"]) (f := He.ga K "letter_at") (fd := (c.says.def_ 28 (d := d_letter_at) rfl).choose) (g := g_letter_at) (c.glo 57 rfl) (c.says.def_ 28 (d := d_letter_at) rfl).choose_spec sc_letter_at fun cdv A outer s H E B hr hgd =>
    have hu0 := hr.units0; have hu := hr.units; have hu1 := u1_of hr; have hu65 := u65_of hr
    dss_cons (ds_expr (de_call (ok_want_machines c) bp_want_machines (hr.mono (by decide)) hgd (takes_of rfl rfl rfl rfl) (da_cons (de_v 0) (da_cons (de_v 1) (da_cons (de_v 2) (da_nil)))) (ALen.cons (ALen.cons (ALen.cons (ALen.nil)))) rfl)) (dss_cons (ds_expr (de_call (ok_want_many c) bp_want_many (hr.mono (by decide)) hgd (takes_of rfl rfl rfl rfl) (da_cons (de_v 3) (da_nil)) (ALen.cons (ALen.nil)) rfl)) (dss_one (ds_ret (de_ix (db_of (de_ix (db_of (de_call (ok_moves_of c) bp_moves_of (hr.mono (by decide)) hgd (takes_of rfl rfl rfl rfl) (da_cons (de_v 0) (da_nil)) (ALen.cons (ALen.nil)) rfl)) (db_of (de_call (ok_at_course c) bp_at_course (hr.mono (by decide)) hgd (takes_of rfl rfl rfl rfl) (da_cons (de_call (ok_course_of c) bp_course_of (hr.mono (by decide)) hgd (takes_of rfl rfl rfl rfl) (da_cons (de_v 0) (da_cons (de_v 1) (da_cons (de_v 2) (da_nil)))) (ALen.cons (ALen.cons (ALen.cons (ALen.nil)))) rfl) (da_cons (de_v 3) (da_nil))) (ALen.cons (ALen.cons (ALen.nil))) rfl)))) (db_of (de_int))))))
theorem sc_counted : FnScope ["plant", "hand", "weather", "letter", "many", "moves", "told", "head", "loop", "some", "one"] ["plant", "hand", "weather", "letter", "many"] d_counted.scope := ⟨rfl, rfl, rfl, by decide +kernel, rfl, by decide +kernel, by decide +kernel⟩
def lt1_counted : Tgt := gV 10
def lf1_counted : Ev D := eFn bInt (aCons (eBin2 oEq (eBin2 oIx (eBin2 oIx (eVb 5) (eVb 10)) (eC (.int 1))) (eVb 3)) (aNil))
def lt2_counted : Tgt := gV 9
def lf2_counted : Ev D := eFrz (nLc (iSeq (eV 9)) [10] (lt1_counted) (bYes) (lf1_counted))
def g_counted : Es := sSeq (sDr (eCall F_want_machines (aCons (eV 0) (aCons (eV 1) (aCons (eV 2) (aNil)))))) (sSeq (sIf (bOr (bNot (toB (eCall F_is_count (aCons (eV 3) (aNil))))) (toB (eBin2 oGe (eVb 3) (eBin2 oIx (eVb 0) (eC (.int 1)))))) ((fun _ _ => .no)) (sNx)) (sSeq (sDr (eCall F_want_many (aCons (eV 4) (aNil)))) (sSeq (sPar [5, 6] (mVal (eCall F_moves_of (aCons (eV 0) (aNil))) (mVal (eCall F_course_of (aCons (eV 0) (aCons (eV 1) (aCons (eV 2) (aNil))))) (mNil)))) (sSeq (sUnp (gT 2 (gConsR (gV 7) (gConsR (gV 8) (gNilR))) ((gV 7).ix ++ ((gV 8).ix ++ []))) (eFrz (nLc (iSeq (eV 6)) [9] (lt2_counted) (bYes) (lf2_counted)))) (sRt (eCall F_sum_along (aCons (eTup (aCons (eV 7) (aCons (eV 8) (aNil)))) (aCons (eV 4) (aNil)))))))))
def F_counted : Fn := fnOf 11 g_counted
theorem ok_counted {P : Program} {w : World} {K : PySem.W.Frag} {mg : PySem.Str → Option Value} {base : Heap} (c : C K mg base) : OkD P w K mg base d_counted ["plant", "hand", "weather", "letter", "many"] 9 F_counted :=
  OkD.mk (N := ["plant", "hand", "weather", "letter", "many", "moves", "told", "head", "loop", "some", "one"]) (f := He.ga K "counted") (fd := (c.says.def_ 29 (d := d_counted) rfl).choose) (g := g_counted) (c.glo 58 rfl) (c.says.def_ 29 (d := d_counted) rfl).choose_spec sc_counted fun cdv A outer s H E B hr hgd =>
    have hu0 := hr.units0; have hu := hr.units; have hu1 := u1_of hr; have hu65 := u65_of hr
    dss_cons (ds_expr (de_call (ok_want_machines c) bp_want_machines (hr.mono (by decide)) hgd (takes_of rfl rfl rfl rfl) (da_cons (de_v 0) (da_cons (de_v 1) (da_cons (de_v 2) (da_nil)))) (ALen.cons (ALen.cons (ALen.cons (ALen.nil)))) rfl)) (dss_cons (ds_if (dt_w (dw_or (dt_not (dt_val (de_call (ok_is_count c) bp_is_count (hr.mono (by decide)) hgd (takes_of rfl rfl rfl rfl) (da_cons (de_v 3) (da_nil)) (ALen.cons (ALen.nil)) rfl))) (dw_or1 (dt_cmp2 op_ge opb_ge (db_v 3) (db_of (de_ix (db_v 0) (db_of (de_int)))))))) (dss_one (ds_never)) (dss_nil)) (dss_cons (ds_expr (de_call (ok_want_many c) bp_want_many (hr.mono (by decide)) hgd (takes_of rfl rfl rfl rfl) (da_cons (de_v 4) (da_nil)) (ALen.cons (ALen.nil)) rfl)) (dss_cons (ds_parN rfl (dm_val (de_call (ok_moves_of c) bp_moves_of (hr.mono (by decide)) hgd (takes_of rfl rfl rfl rfl) (da_cons (de_v 0) (da_nil)) (ALen.cons (ALen.nil)) rfl) (dm_val (de_call (ok_course_of c) bp_course_of (hr.mono (by decide)) hgd (takes_of rfl rfl rfl rfl) (da_cons (de_v 0) (da_cons (de_v 1) (da_cons (de_v 2) (da_nil)))) (ALen.cons (ALen.cons (ALen.cons (ALen.nil)))) rfl) (dm_nil))) (nm_cons 5 sc_counted.nd (nm_cons 6 sc_counted.nd (nm_nil)))) (dss_cons (ds_unp (de_frz (dn_lc [("some", 9)] rfl sc_counted.nd (dj_of (di_seq (de_v 6))) (blk_of (N := ["plant", "hand", "weather", "letter", "many", "moves", "told", "head", "loop", "some", "one"]) (sc := d_counted.scope) (by decide +kernel)) (by decide) (fun _ _ _ _ _ => dg_v 9 sc_counted.nd) (fun _ _ _ _ _ => dts_nil) (fun _ _ _ _ _ => de_frz (dn_lc [("one", 10)] rfl sc_counted.nd (dj_of (di_seq (de_v 9))) (blk_of (N := ["plant", "hand", "weather", "letter", "many", "moves", "told", "head", "loop", "some", "one"]) rfl) (by decide) (fun _ _ _ _ _ => dg_v 10 sc_counted.nd) (fun _ _ _ _ _ => dts_nil) (fun _ _ _ _ _ => de_ty call_int1 cb_int rfl (c.free 1 rfl) bo_int (dab_cons (db_of (de_cmp2 (op_eq.or (op_eqD hu)) opb_eq (db_of (de_ix (db_of (de_ix (db_v 5) (db_v 10))) (db_of (de_int)))) (db_v 3))) (dab_nil))))))) (dg_t rfl (dgs_cons (dg_v 7 sc_counted.nd) (dgs_cons (dg_v 8 sc_counted.nd) (dgs_nil))))) (dss_one (ds_ret (de_call (ok_sum_along c) bp_sum_along (hr.mono (by decide)) hgd (takes_of rfl rfl rfl rfl) (da_cons (de_tup (da_cons (de_v 7) (da_cons (de_v 8) (da_nil)))) (da_cons (de_v 4) (da_nil))) (ALen.cons (ALen.cons (ALen.nil))) rfl)))))))
theorem sc__law_pot : FnScope ["script", "k", "cell"] ["script", "k"] d__law_pot.scope := ⟨rfl, rfl, rfl, by decide +kernel, rfl, by decide +kernel, by decide +kernel⟩
def g__law_pot : Es := sSeq (sSet 2 (eIf (toB (eBin2 oLt (eVb 1) (eFn bLen (aCons (eVb 0) (aNil))))) (eFn bAbs (aCons (eBin2 oIx (eVb 0) (eVb 1)) (aNil))) (eBin2 oAdd (eBin2 oMul (eC (.int 751)) (eVb 1)) (eC (.int 127))))) (sRt (ePb (nLst (aCons (eFn bMax2 (aCons (eC (.int 0)) (aCons (eBin2 oSub (eVb 2) (eBin2 oPow (eC (.int 10)) (eC (.int 18)))) (aNil)))) (aCons (eBin2 oAdd (eBin2 oMod (eFn bInt (aCons (eBin2 oAdd (eBin2 oAdd (eBin2 oMul (eBin2 oMod (eFn bInt (aCons (eVb 2) (aNil))) (eC (.int 2147483549))) (eC (.int 40014))) (eBin2 oMul (eC (.int 6173)) (eVb 1))) (eC (.int 461))) (aNil))) (eC (.int 2147483563))) (eC (.int 1))) (aNil))))))
def F__law_pot : Fn := fnOf 3 g__law_pot
theorem ok__law_pot {P : Program} {w : World} {K : PySem.W.Frag} {mg : PySem.Str → Option Value} {base : Heap} (c : C K mg base) : OkD P w K mg base d__law_pot ["script", "k"] 1 F__law_pot :=
  OkD.mk (N := ["script", "k", "cell"]) (f := He.ga K "_law_pot") (fd := (c.says.def_ 30 (d := d__law_pot) rfl).choose) (g := g__law_pot) (c.glo 59 rfl) (c.says.def_ 30 (d := d__law_pot) rfl).choose_spec sc__law_pot fun cdv A outer s H E B hr hgd =>
    have hu0 := hr.units0; have hu := hr.units; have hu1 := u1_of hr; have hu65 := u65_of hr
    dss_cons (ds_set 2 (de_if (dt_cmp2 (op_lt.or (op_ltT hu0)) opb_lt (db_v 1) (db_of (de_bi call_len cb_len rfl (c.free 5 rfl) bo_len (dab_cons (db_v 0) (dab_nil))))) (de_bi call_abs cb_abs rfl (c.free 23 rfl) bo_abs (dab_cons (db_of (de_ix (db_v 0) (db_v 1))) (dab_nil))) (de_add (db_of (de_mul (db_of (de_int)) (db_v 1))) (db_of (de_int)))) sc__law_pot.nd) (dss_one (ds_ret (de_pb (dn_lst (da_cons (de_bi (call_max2 rfl) cb_max2 rfl (c.free 24 rfl) bo_max (dab_cons (db_of (de_int)) (dab_cons (db_of (de_sub (db_v 2) (db_of (de_pow (db_of (de_int)) (db_of (de_int)))))) (dab_nil)))) (da_cons (de_add (db_of (de_mod (db_of (de_ty call_int1 cb_int rfl (c.free 1 rfl) bo_int (dab_cons (db_of (de_add (db_of (de_add (db_of (de_mul (db_of (de_mod (db_of (de_ty call_int1 cb_int rfl (c.free 1 rfl) bo_int (dab_cons (db_v 2) (dab_nil)))) (db_of (de_int)))) (db_of (de_int)))) (db_of (de_mul (db_of (de_int)) (db_v 1))))) (db_of (de_int)))) (dab_nil)))) (db_of (de_int)))) (db_of (de_int))) (da_nil)))))))
theorem sc__law_draw : FnScope ["pot", "many", "digit"] ["pot", "many"] d__law_draw.scope := ⟨rfl, rfl, rfl, by decide +kernel, rfl, by decide +kernel, by decide +kernel⟩
def g__law_draw : Es := sSeq (sIf (toB (eBin2 oGt (eBin2 oIx (eVb 0) (eC (.int 0))) (eC (.int 0)))) (sSeq (sPot 0 2 0 (eFn bDm (aCons (eBin2 oIx (eVb 0) (eC (.int 0))) (aCons (eVb 1) (aNil))))) (sRt (eV 2))) (sNx)) (sSeq (sIPut 0 (eC (.int 1)) (eBin2 oMod (eFn bInt (aCons (eBin2 oAdd (eBin2 oMul (eBin2 oIx (eVb 0) (eC (.int 1))) (eC (.int 40692))) (eC (.int 9311))) (aNil))) (eC (.int 2147483587)))) (sRt (eBin2 oMod (eFn bInt (aCons (eBin2 oFdv (eBin2 oMod (eFn bInt (aCons (eBin2 oMul (eBin2 oIx (eVb 0) (eC (.int 1))) (eBin2 oIx (eVb 0) (eC (.int 1)))) (aNil))) (eC (.int 2147483549))) (eC (.int 17))) (aNil))) (eVb 1))))
def F__law_draw : Fn := fnOf 3 g__law_draw
theorem ok__law_draw {P : Program} {w : World} {K : PySem.W.Frag} {mg : PySem.Str → Option Value} {base : Heap} (c : C K mg base) : OkD P w K mg base d__law_draw ["pot", "many"] 1 F__law_draw :=
  OkD.mk (N := ["pot", "many", "digit"]) (f := He.ga K "_law_draw") (fd := (c.says.def_ 31 (d := d__law_draw) rfl).choose) (g := g__law_draw) (c.glo 60 rfl) (c.says.def_ 31 (d := d__law_draw) rfl).choose_spec sc__law_draw fun cdv A outer s H E B hr hgd =>
    have hu0 := hr.units0; have hu := hr.units; have hu1 := u1_of hr; have hu65 := u65_of hr
    dss_cons (ds_if (dt_cmp2 op_gt opb_gt (db_of (de_ix (db_v 0) (db_of (de_int)))) (db_of (de_int))) (dss_cons (ds_pot 0 2 0 rfl (de_bi call_divmod cb_dm rfl (c.free 22 rfl) bo_divmod (dab_cons (db_of (de_ix (db_v 0) (db_of (de_int)))) (dab_cons (db_v 1) (dab_nil)))) sc__law_draw.nd) (dss_one (ds_ret (de_v 2)))) (dss_nil)) (dss_cons (ds_iput 0 (de_int) (de_mod (db_of (de_ty call_int1 cb_int rfl (c.free 1 rfl) bo_int (dab_cons (db_of (de_add (db_of (de_mul (db_of (de_ix (db_v 0) (db_of (de_int)))) (db_of (de_int)))) (db_of (de_int)))) (dab_nil)))) (db_of (de_int)))) (dss_one (ds_ret (de_mod (db_of (de_ty call_int1 cb_int rfl (c.free 1 rfl) bo_int (dab_cons (db_of (de_fdv (db_of (de_mod (db_of (de_ty call_int1 cb_int rfl (c.free 1 rfl) bo_int (dab_cons (db_of (de_mul (db_of (de_ix (db_v 0) (db_of (de_int)))) (db_of (de_ix (db_v 0) (db_of (de_int)))))) (dab_nil)))) (db_of (de_int)))) (db_of (de_int)))) (dab_nil)))) (db_v 1)))))
theorem sc__law_pick : FnScope ["pot", "some"] ["pot", "some"] d__law_pick.scope := ⟨rfl, rfl, rfl, by decide +kernel, rfl, by decide +kernel, by decide +kernel⟩
def g__law_pick : Es := sRt (eBin2 oIx (eVb 1) (eCall F__law_draw (aCons (eV 0) (aCons (eFn bLen (aCons (eVb 1) (aNil))) (aNil)))))
def F__law_pick : Fn := fnOf 2 g__law_pick
theorem ok__law_pick {P : Program} {w : World} {K : PySem.W.Frag} {mg : PySem.Str → Option Value} {base : Heap} (c : C K mg base) : OkD P w K mg base d__law_pick ["pot", "some"] 2 F__law_pick :=
  OkD.mk (N := ["pot", "some"]) (f := He.ga K "_law_pick") (fd := (c.says.def_ 32 (d := d__law_pick) rfl).choose) (g := g__law_pick) (c.glo 61 rfl) (c.says.def_ 32 (d := d__law_pick) rfl).choose_spec sc__law_pick fun cdv A outer s H E B hr hgd =>
    have hu0 := hr.units0; have hu := hr.units; have hu1 := u1_of hr; have hu65 := u65_of hr
    dss_one (ds_ret (de_ix (db_v 1) (db_of (de_call (ok__law_draw c) bp__law_draw (hr.mono (by decide)) hgd (takes_of rfl rfl rfl rfl) (da_cons (de_v 0) (da_cons (de_bi call_len cb_len rfl (c.free 5 rfl) bo_len (dab_cons (db_v 1) (dab_nil))) (da_nil))) (ALen.cons (ALen.cons (ALen.nil))) rfl))))
theorem sc__law_moves : FnScope ["plant", "found", "place", "some", "letter", "to"] ["plant"] d__law_moves.scope := ⟨rfl, rfl, rfl, by decide +kernel, rfl, by decide +kernel, by decide +kernel⟩
def lt1__law_moves : Tgt := gT 2 (gConsR (gV 4) (gConsR (gV 5) (gNilR))) ((gV 4).ix ++ ((gV 5).ix ++ []))
def lf1__law_moves : Ev D := eTup (aCons (eV 2) (aCons (eV 4) (aCons (eV 5) (aNil))))
def t1__law_moves : Tgt := gT 2 (gConsR (gV 2) (gConsR (gV 3) (gNilR))) ((gV 2).ix ++ ((gV 3).ix ++ []))
def b1__law_moves : Es := sMu 1 mExt (eFrz (nLc (iSeq (eV 3)) [4, 5] (lt1__law_moves) (bYes) (lf1__law_moves)))
def g__law_moves : Es := sSeq (sNew 1 (nLst (aNil))) (sSeq (sFor (iVia enumOf (aCons (eBin2 oIx (eVb 0) (eC (.int 3))) (aNil))) (t1__law_moves) (b1__law_moves)) (sSeq (sFz 1) (sRt (eV 1))))
def F__law_moves : Fn := fnOf 6 g__law_moves
theorem ok__law_moves {P : Program} {w : World} {K : PySem.W.Frag} {mg : PySem.Str → Option Value} {base : Heap} (c : C K mg base) : OkD P w K mg base d__law_moves ["plant"] 1 F__law_moves :=
  OkD.mk (N := ["plant", "found", "place", "some", "letter", "to"]) (f := He.ga K "_law_moves") (fd := (c.says.def_ 33 (d := d__law_moves) rfl).choose) (g := g__law_moves) (c.glo 62 rfl) (c.says.def_ 33 (d := d__law_moves) rfl).choose_spec sc__law_moves fun cdv A outer s H E B hr hgd =>
    have hu0 := hr.units0; have hu := hr.units; have hu1 := u1_of hr; have hu65 := u65_of hr
    dss_cons (ds_new 1 (dn_lst (da_nil)) sc__law_moves.nd) (dss_cons (ds_for (passes_of rfl) rfl (di_enum (da_cons (de_ix (db_v 0) (db_of (de_int))) (da_nil)) rfl (c.free 15 rfl)) (dg_t rfl (dgs_cons (dg_v 2 sc__law_moves.nd) (dgs_cons (dg_v 3 sc__law_moves.nd) (dgs_nil)))) (dss_one (ds_ext 1 (db_of (de_frz (dn_lc [("letter", 4), ("to", 5)] rfl sc__law_moves.nd (dj_of (di_seq (de_v 3))) (blk_of (N := ["plant", "found", "place", "some", "letter", "to"]) (sc := d__law_moves.scope) (by decide +kernel)) (by decide) (fun _ _ _ _ _ => dg_t rfl (dgs_cons (dg_v 4 sc__law_moves.nd) (dgs_cons (dg_v 5 sc__law_moves.nd) (dgs_nil)))) (fun _ _ _ _ _ => dts_nil) (fun _ _ _ _ _ => de_tup (da_cons (de_v 2) (da_cons (de_v 4) (da_cons (de_v 5) (da_nil))))))))))) (dss_fz (dss_one (ds_ret (de_v 1)))))
theorem sc__law_plant : FnScope ["pot", "letters", "places", "owners", "moves", "place", "some", "turn"] ["pot", "letters", "places"] d__law_plant.scope := ⟨rfl, rfl, rfl, by decide +kernel, rfl, by decide +kernel, by decide +kernel⟩
def lt1__law_plant : Tgt := gV 7
def lf1__law_plant : Ev D := eTup (aCons (eCall F__law_draw (aCons (eV 0) (aCons (eV 1) (aNil)))) (aCons (eCall F__law_draw (aCons (eV 0) (aCons (eV 2) (aNil)))) (aNil)))
def t1__law_plant : Tgt := gV 5
def b1__law_plant : Es := sSeq (sMu 3 mApp (eCall F__law_draw (aCons (eV 0) (aCons (eC (.int 2)) (aNil))))) (sSeq (sSet 6 (eFrz (nLc (iRange (aCons (eBin2 oAdd (eC (.int 1)) (eCall F__law_draw (aCons (eV 0) (aCons (eC (.int 3)) (aNil))))) (aNil))) [7] (lt1__law_plant) (bYes) (lf1__law_plant)))) (sMu 4 mApp (eFn bTup (aCons (eFrz (nSS 2 10 (eVb 6))) (aNil)))))
def g__law_plant : Es := sSeq (sPar [3, 4] (mNew (nLst (aNil)) (mNew (nLst (aNil)) (mNil)))) (sSeq (sFor (iRange (aCons (eV 2) (aNil))) (t1__law_plant) (b1__law_plant)) (sSeq (sFz 4) (sSeq (sFz 3) (sRt (eTup (aCons (eC (.str "plant")) (aCons (eV 1) (aCons (eFn bTup (aCons (eVb 3) (aNil))) (aCons (eFn bTup (aCons (eVb 4) (aNil))) (aNil))))))))))
def F__law_plant : Fn := fnOf 8 g__law_plant
theorem ok__law_plant {P : Program} {w : World} {K : PySem.W.Frag} {mg : PySem.Str → Option Value} {base : Heap} (c : C K mg base) : OkD P w K mg base d__law_plant ["pot", "letters", "places"] 2 F__law_plant :=
  OkD.mk (N := ["pot", "letters", "places", "owners", "moves", "place", "some", "turn"]) (f := He.ga K "_law_plant") (fd := (c.says.def_ 34 (d := d__law_plant) rfl).choose) (g := g__law_plant) (c.glo 63 rfl) (c.says.def_ 34 (d := d__law_plant) rfl).choose_spec sc__law_plant fun cdv A outer s H E B hr hgd =>
    have hu0 := hr.units0; have hu := hr.units; have hu1 := u1_of hr; have hu65 := u65_of hr
    dss_cons (ds_par2 (i := 3) (j := 4) rfl sc__law_plant.nd (dm_new (dn_lst (da_nil)) (dm_new (dn_lst (da_nil)) (dm_nil)))) (dss_cons (ds_for (passes_of rfl) rfl (di_range1 (da_cons (de_v 2) (da_nil)) (ALen.cons (ALen.nil)) rfl (c.free 17 rfl)) (dg_v 5 sc__law_plant.nd) (dss_cons (ds_app 3 (de_call (ok__law_draw c) bp__law_draw (hr.mono (by decide)) hgd (takes_of rfl rfl rfl rfl) (da_cons (de_v 0) (da_cons (de_int) (da_nil))) (ALen.cons (ALen.cons (ALen.nil))) rfl)) (dss_cons (ds_setLc (i := 6) [("turn", 7)] rfl sc__law_plant.nd (dj_of (di_range1 (da_cons (de_add (db_of (de_int)) (db_of (de_call (ok__law_draw c) bp__law_draw (hr.mono (by decide)) hgd (takes_of rfl rfl rfl rfl) (da_cons (de_v 0) (da_cons (de_int) (da_nil))) (ALen.cons (ALen.cons (ALen.nil))) rfl))) (da_nil)) (ALen.cons (ALen.nil)) rfl (c.free 17 rfl))) (blk_of (N := ["pot", "letters", "places", "owners", "moves", "place", "some", "turn"]) (sc := d__law_plant.scope) (by decide +kernel)) (by decide) (fun _ _ _ _ _ => dg_v 7 sc__law_plant.nd) (fun _ _ _ _ _ => dts_nil) (fun _ _ _ _ _ => de_tup (da_cons (de_call (ok__law_draw c) bp__law_draw (hr.mono (by decide)) hgd takes0 (da_cons (de_v 0) (da_cons (de_v 1) (da_nil))) (ALen.cons (ALen.cons (ALen.nil))) rfl) (da_cons (de_call (ok__law_draw c) bp__law_draw (hr.mono (by decide)) hgd takes0 (da_cons (de_v 0) (da_cons (de_v 2) (da_nil))) (ALen.cons (ALen.cons (ALen.nil))) rfl) (da_nil)))) (sw_true rfl rfl rfl rfl)) (dss_one (ds_app 4 (de_ty call_tuple_of cb_tup rfl (c.free 4 rfl) bo_tuple (dab_cons (db_of (de_frz (dn_ss 2 10 rfl hu rfl (c.free 25 rfl) bo_sorted rfl (c.free 26 rfl) bo_set (db_v 6)))) (dab_nil)))))))) (dss_fz (dss_fz (dss_one (ds_ret (de_tup (da_cons (de_str) (da_cons (de_v 1) (da_cons (de_ty call_tuple_of cb_tup rfl (c.free 4 rfl) bo_tuple (dab_cons (db_v 3) (dab_nil))) (da_cons (de_ty call_tuple_of cb_tup rfl (c.free 4 rfl) bo_tuple (dab_cons (db_v 4) (dab_nil))) (da_nil)))))))))))
theorem sc__law_machine : FnScope ["pot", "plant", "side", "memories", "takes", "nexts", "memory", "row", "owner", "some", "move"] ["pot", "plant", "side", "memories"] d__law_machine.scope := ⟨rfl, rfl, rfl, by decide +kernel, rfl, by decide +kernel, by decide +kernel⟩
def t1__law_machine : Tgt := gT 2 (gConsR (gV 8) (gConsR (gV 9) (gNilR))) ((gV 8).ix ++ ((gV 9).ix ++ []))
def b1__law_machine : Es := sMu 7 mApp (eIf (toB (eBin2 oEq (eVb 8) (eVb 2))) (eCall F__law_draw (aCons (eV 0) (aCons (eFn bLen (aCons (eVb 9) (aNil))) (aNil)))) (eC .non))
def lt1__law_machine : Tgt := gV 10
def lf1__law_machine : Ev D := eCall F__law_draw (aCons (eV 0) (aCons (eV 3) (aNil)))
def t2__law_machine : Tgt := gV 6
def b2__law_machine : Es := sSeq (sNew 7 (nLst (aNil))) (sSeq (sFor (iVia zipD (aCons (eBin2 oIx (eVb 1) (eC (.int 2))) (aCons (eBin2 oIx (eVb 1) (eC (.int 3))) (aNil)))) (t1__law_machine) (b1__law_machine)) (sSeq (sFz 7) (sSeq (sMu 4 mApp (eFn bTup (aCons (eVb 7) (aNil)))) (sMu 5 mApp (eFn bTup (aCons (eFrz (nLc (iSeq (eCall F__law_moves (aCons (eV 1) (aNil)))) [10] (lt1__law_machine) (bYes) (lf1__law_machine))) (aNil)))))))
def g__law_machine : Es := sSeq (sPar [4, 5] (mNew (nLst (aNil)) (mNew (nLst (aNil)) (mNil)))) (sSeq (sFor (iRange (aCons (eV 3) (aNil))) (t2__law_machine) (b2__law_machine)) (sSeq (sFz 5) (sSeq (sFz 4) (sRt (eTup (aCons (eBin2 oIx (eFrz (nLst (aCons (eC (.str "hand")) (aCons (eC (.str "weather")) (aNil))))) (eVb 2)) (aCons (eFn bTup (aCons (eVb 4) (aNil))) (aCons (eFn bTup (aCons (eVb 5) (aNil))) (aNil)))))))))
def F__law_machine : Fn := fnOf 11 g__law_machine
theorem ok__law_machine {P : Program} {w : World} {K : PySem.W.Frag} {mg : PySem.Str → Option Value} {base : Heap} (c : C K mg base) : OkD P w K mg base d__law_machine ["pot", "plant", "side", "memories"] 2 F__law_machine :=
  OkD.mk (N := ["pot", "plant", "side", "memories", "takes", "nexts", "memory", "row", "owner", "some", "move"]) (f := He.ga K "_law_machine") (fd := (c.says.def_ 35 (d := d__law_machine) rfl).choose) (g := g__law_machine) (c.glo 64 rfl) (c.says.def_ 35 (d := d__law_machine) rfl).choose_spec sc__law_machine fun cdv A outer s H E B hr hgd =>
    have hu0 := hr.units0; have hu := hr.units; have hu1 := u1_of hr; have hu65 := u65_of hr
    dss_cons (ds_par2 (i := 4) (j := 5) rfl sc__law_machine.nd (dm_new (dn_lst (da_nil)) (dm_new (dn_lst (da_nil)) (dm_nil)))) (dss_cons (ds_for (passes_of rfl) rfl (di_range1 (da_cons (de_v 3) (da_nil)) (ALen.cons (ALen.nil)) rfl (c.free 17 rfl)) (dg_v 6 sc__law_machine.nd) (dss_cons (ds_new 7 (dn_lst (da_nil)) sc__law_machine.nd) (dss_cons (ds_for (passes_of rfl) rfl (di_zip (da_cons (de_ix (db_v 1) (db_of (de_int))) (da_cons (de_ix (db_v 1) (db_of (de_int))) (da_nil))) rfl (c.free 8 rfl)) (dg_t rfl (dgs_cons (dg_v 8 sc__law_machine.nd) (dgs_cons (dg_v 9 sc__law_machine.nd) (dgs_nil)))) (dss_one (ds_app 7 (de_if (dt_cmp2 (op_eq.or (op_eqD hu)) opb_eq (db_v 8) (db_v 2)) (de_call (ok__law_draw c) bp__law_draw (hr.mono (by decide)) hgd (takes_of rfl rfl rfl rfl) (da_cons (de_v 0) (da_cons (de_bi call_len cb_len rfl (c.free 5 rfl) bo_len (dab_cons (db_v 9) (dab_nil))) (da_nil))) (ALen.cons (ALen.cons (ALen.nil))) rfl) (de_non))))) (dss_fz (dss_cons (ds_app 4 (de_ty call_tuple_of cb_tup rfl (c.free 4 rfl) bo_tuple (dab_cons (db_v 7) (dab_nil)))) (dss_one (ds_app 5 (de_ty call_tuple_of cb_tup rfl (c.free 4 rfl) bo_tuple (dab_cons (db_of (de_frz (dn_lc [("move", 10)] rfl sc__law_machine.nd (dj_of (di_seq (de_call (ok__law_moves c) bp__law_moves (hr.mono (by decide)) hgd (takes_of rfl rfl rfl rfl) (da_cons (de_v 1) (da_nil)) (ALen.cons (ALen.nil)) rfl))) (blk_of (N := ["pot", "plant", "side", "memories", "takes", "nexts", "memory", "row", "owner", "some", "move"]) (sc := d__law_machine.scope) (by decide +kernel)) (by decide) (fun _ _ _ _ _ => dg_v 10 sc__law_machine.nd) (fun _ _ _ _ _ => dts_nil) (fun _ _ _ _ _ => de_call (ok__law_draw c) bp__law_draw (hr.mono (by decide)) hgd takes0 (da_cons (de_v 0) (da_cons (de_v 3) (da_nil))) (ALen.cons (ALen.cons (ALen.nil))) rfl)))) (dab_nil)))))))))) (dss_fz (dss_fz (dss_one (ds_ret (de_tup (da_cons (de_ix (db_of (de_frz (dn_lst (da_cons (de_str) (da_cons (de_str) (da_nil)))))) (db_v 2)) (da_cons (de_ty call_tuple_of cb_tup rfl (c.free 4 rfl) bo_tuple (dab_cons (db_v 4) (dab_nil))) (da_cons (de_ty call_tuple_of cb_tup rfl (c.free 4 rfl) bo_tuple (dab_cons (db_v 5) (dab_nil))) (da_nil))))))))))
theorem sc__law_play : FnScope ["plant", "hand", "weather", "many", "moves", "stand", "numbers", "stands", "turn", "place", "near", "far", "some", "number", "at", "move"] ["plant", "hand", "weather", "many"] d__law_play.scope := ⟨rfl, rfl, rfl, by decide +kernel, rfl, by decide +kernel, by decide +kernel⟩
def lt1__law_play : Tgt := gT 2 (gConsR (gV 14) (gConsR (gV 15) (gNilR))) ((gV 14).ix ++ ((gV 15).ix ++ []))
def lf1__law_play : Ev D := eV 14
def lc1__law_play : Ev Bool := toB (eBin2 oEq (eBin2 oIx (eVb 15) (eC (.int 0))) (eVb 9))
def t1__law_play : Tgt := gV 8
def b1__law_play : Es := sSeq (sUnp (gT 3 (gConsR (gV 9) (gConsR (gV 10) (gConsR (gV 11) (gNilR)))) ((gV 9).ix ++ ((gV 10).ix ++ ((gV 11).ix ++ [])))) (eV 5)) (sSeq (sSet 12 (eFrz (nLc (iVia enumOf (aCons (eV 4) (aNil))) [14, 15] (lt1__law_play) (lc1__law_play) (lf1__law_play)))) (sSeq (sSet 13 (eBin2 oIx (eVb 12) (eIf (toB (eBin2 oEq (eBin2 oIx (eBin2 oIx (eVb 0) (eC (.int 2))) (eVb 9)) (eC (.int 0)))) (eBin2 oIx (eBin2 oIx (eBin2 oIx (eVb 1) (eC (.int 1))) (eVb 10)) (eVb 9)) (eBin2 oIx (eBin2 oIx (eBin2 oIx (eVb 2) (eC (.int 1))) (eVb 11)) (eVb 9))))) (sSeq (sMu 6 mApp (eV 13)) (sSeq (sMu 7 mApp (eV 5)) (sSet 5 (eTup (aCons (eBin2 oIx (eBin2 oIx (eVb 4) (eVb 13)) (eC (.int 2))) (aCons (eBin2 oIx (eBin2 oIx (eBin2 oIx (eVb 1) (eC (.int 2))) (eVb 10)) (eVb 13)) (aCons (eBin2 oIx (eBin2 oIx (eBin2 oIx (eVb 2) (eC (.int 2))) (eVb 11)) (eVb 13)) (aNil))))))))))
def g__law_play : Es := sSeq (sPar [4, 5, 6, 7] (mVal (eCall F__law_moves (aCons (eV 0) (aNil))) (mVal (eTup (aCons (eC (.int 0)) (aCons (eC (.int 0)) (aCons (eC (.int 0)) (aNil))))) (mNew (nLst (aNil)) (mNew (nLst (aNil)) (mNil)))))) (sSeq (sFor (iRange (aCons (eV 3) (aNil))) (t1__law_play) (b1__law_play)) (sSeq (sFz 6) (sSeq (sFz 7) (sRt (eTup (aCons (eV 6) (aCons (eV 7) (aNil))))))))
def F__law_play : Fn := fnOf 16 g__law_play
theorem ok__law_play {P : Program} {w : World} {K : PySem.W.Frag} {mg : PySem.Str → Option Value} {base : Heap} (c : C K mg base) : OkD P w K mg base d__law_play ["plant", "hand", "weather", "many"] 2 F__law_play :=
  OkD.mk (N := ["plant", "hand", "weather", "many", "moves", "stand", "numbers", "stands", "turn", "place", "near", "far", "some", "number", "at", "move"]) (f := He.ga K "_law_play") (fd := (c.says.def_ 36 (d := d__law_play) rfl).choose) (g := g__law_play) (c.glo 65 rfl) (c.says.def_ 36 (d := d__law_play) rfl).choose_spec sc__law_play fun cdv A outer s H E B hr hgd =>
    have hu0 := hr.units0; have hu := hr.units; have hu1 := u1_of hr; have hu65 := u65_of hr
    dss_cons (ds_parN rfl (dm_val (de_call (ok__law_moves c) bp__law_moves (hr.mono (by decide)) hgd (takes_of rfl rfl rfl rfl) (da_cons (de_v 0) (da_nil)) (ALen.cons (ALen.nil)) rfl) (dm_val (de_tup (da_cons (de_int) (da_cons (de_int) (da_cons (de_int) (da_nil))))) (dm_new (dn_lst (da_nil)) (dm_new (dn_lst (da_nil)) (dm_nil))))) (nm_cons 4 sc__law_play.nd (nm_cons 5 sc__law_play.nd (nm_cons 6 sc__law_play.nd (nm_cons 7 sc__law_play.nd (nm_nil)))))) (dss_cons (ds_for (passes_of rfl) rfl (di_range1 (da_cons (de_v 3) (da_nil)) (ALen.cons (ALen.nil)) rfl (c.free 17 rfl)) (dg_v 8 sc__law_play.nd) (dss_cons (ds_unp (de_v 5) (dg_t rfl (dgs_cons (dg_v 9 sc__law_play.nd) (dgs_cons (dg_v 10 sc__law_play.nd) (dgs_cons (dg_v 11 sc__law_play.nd) (dgs_nil)))))) (dss_cons (ds_setLc (i := 12) [("at", 14), ("move", 15)] rfl sc__law_play.nd (dj_of (di_enum (da_cons (de_v 4) (da_nil)) rfl (c.free 15 rfl))) (blk_of (N := ["plant", "hand", "weather", "many", "moves", "stand", "numbers", "stands", "turn", "place", "near", "far", "some", "number", "at", "move"]) (sc := d__law_play.scope) (by decide +kernel)) (by decide) (fun _ _ _ _ _ => dg_t rfl (dgs_cons (dg_v 14 sc__law_play.nd) (dgs_cons (dg_v 15 sc__law_play.nd) (dgs_nil)))) (fun _ _ _ _ _ => dts_one (dt_cmp2 (op_eq.or (op_eqD hu)) opb_eq (db_of (de_ix (db_v 15) (db_of (de_int)))) (db_v 9))) (fun _ _ _ _ _ => de_v 14) (sw_true rfl rfl rfl rfl)) (dss_cons (ds_set 13 (de_ix (db_v 12) (db_of (de_if (dt_cmp2 (op_eq.or (op_eqD hu)) opb_eq (db_of (de_ix (db_of (de_ix (db_v 0) (db_of (de_int)))) (db_v 9))) (db_of (de_int))) (de_ix (db_of (de_ix (db_of (de_ix (db_v 1) (db_of (de_int)))) (db_v 10))) (db_v 9)) (de_ix (db_of (de_ix (db_of (de_ix (db_v 2) (db_of (de_int)))) (db_v 11))) (db_v 9))))) sc__law_play.nd) (dss_cons (ds_app 6 (de_v 13)) (dss_cons (ds_app 7 (de_v 5)) (dss_one (ds_set 5 (de_tup (da_cons (de_ix (db_of (de_ix (db_v 4) (db_v 13))) (db_of (de_int))) (da_cons (de_ix (db_of (de_ix (db_of (de_ix (db_v 1) (db_of (de_int)))) (db_v 10))) (db_v 13)) (da_cons (de_ix (db_of (de_ix (db_of (de_ix (db_v 2) (db_of (de_int)))) (db_v 11))) (db_v 13)) (da_nil))))) sc__law_play.nd)))))))) (dss_fz (dss_fz (dss_one (ds_ret (de_tup (da_cons (de_v 6) (da_cons (de_v 7) (da_nil)))))))))
theorem sc__law_late : FnScope ["row", "begin", "size", "at"] ["row", "begin", "size", "at"] d__law_late.scope := ⟨rfl, rfl, rfl, by decide +kernel, rfl, by decide +kernel, by decide +kernel⟩
def g__law_late : Es := sRt (eIf (toB (eBin2 oLt (eVb 3) (eVb 1))) (eBin2 oIx (eVb 0) (eVb 3)) (eBin2 oIx (eVb 0) (eBin2 oAdd (eVb 1) (eBin2 oMod (eFn bInt (aCons (eBin2 oSub (eVb 3) (eVb 1)) (aNil))) (eVb 2)))))
def F__law_late : Fn := fnOf 4 g__law_late
theorem ok__law_late {P : Program} {w : World} {K : PySem.W.Frag} {mg : PySem.Str → Option Value} {base : Heap} (c : C K mg base) : OkD P w K mg base d__law_late ["row", "begin", "size", "at"] 1 F__law_late :=
  OkD.mk (N := ["row", "begin", "size", "at"]) (f := He.ga K "_law_late") (fd := (c.says.def_ 37 (d := d__law_late) rfl).choose) (g := g__law_late) (c.glo 66 rfl) (c.says.def_ 37 (d := d__law_late) rfl).choose_spec sc__law_late fun cdv A outer s H E B hr hgd =>
    have hu0 := hr.units0; have hu := hr.units; have hu1 := u1_of hr; have hu65 := u65_of hr
    dss_one (ds_ret (de_if (dt_cmp2 (op_lt.or (op_ltT hu0)) opb_lt (db_v 3) (db_v 1)) (de_ix (db_v 0) (db_v 3)) (de_ix (db_v 0) (db_of (de_add (db_v 1) (db_of (de_mod (db_of (de_ty call_int1 cb_int rfl (c.free 1 rfl) bo_int (dab_cons (db_of (de_sub (db_v 3) (db_v 1))) (dab_nil)))) (db_v 2))))))))
theorem sc__law_sum : FnScope ["row", "begin", "size", "many", "rounds", "rest"] ["row", "begin", "size", "many"] d__law_sum.scope := ⟨rfl, rfl, rfl, by decide +kernel, rfl, by decide +kernel, by decide +kernel⟩
def g__law_sum : Es := sSeq (sIf (toB (eBin2 oLe (eVb 3) (eVb 1))) (sRt (eFn bSum (aCons (eSl (eVb 0) (pNo) (pAt (eVb 3))) (aNil)))) (sNx)) (sSeq (sPar [4, 5] (mVal (eBin2 oFdv (eBin2 oSub (eVb 3) (eVb 1)) (eVb 2)) (mVal (eBin2 oMod (eFn bInt (aCons (eBin2 oSub (eVb 3) (eVb 1)) (aNil))) (eVb 2)) (mNil)))) (sRt (eBin2 oAdd (eBin2 oAdd (eFn bSum (aCons (eSl (eVb 0) (pNo) (pAt (eVb 1))) (aNil))) (eBin2 oMul (eVb 4) (eFn bSum (aCons (eSl (eVb 0) (pAt (eVb 1)) (pAt (eBin2 oAdd (eVb 1) (eVb 2)))) (aNil))))) (eFn bSum (aCons (eSl (eVb 0) (pAt (eVb 1)) (pAt (eBin2 oAdd (eVb 1) (eVb 5)))) (aNil))))))
def F__law_sum : Fn := fnOf 6 g__law_sum
theorem ok__law_sum {P : Program} {w : World} {K : PySem.W.Frag} {mg : PySem.Str → Option Value} {base : Heap} (c : C K mg base) : OkD P w K mg base d__law_sum ["row", "begin", "size", "many"] 1 F__law_sum :=
  OkD.mk (N := ["row", "begin", "size", "many", "rounds", "rest"]) (f := He.ga K "_law_sum") (fd := (c.says.def_ 38 (d := d__law_sum) rfl).choose) (g := g__law_sum) (c.glo 67 rfl) (c.says.def_ 38 (d := d__law_sum) rfl).choose_spec sc__law_sum fun cdv A outer s H E B hr hgd =>
    have hu0 := hr.units0; have hu := hr.units; have hu1 := u1_of hr; have hu65 := u65_of hr
    dss_cons (ds_if (dt_cmp2 op_le opb_le (db_v 3) (db_v 1)) (dss_one (ds_ret (de_bi (cr_sum rfl) cb_sum rfl (c.free 12 rfl) bo_sum (dab_cons (db_of (de_sl (db_v 0) (do_no) (do_at (db_v 3)))) (dab_nil))))) (dss_nil)) (dss_cons (ds_par2 (i := 4) (j := 5) rfl sc__law_sum.nd (dm_val (de_fdv (db_of (de_sub (db_v 3) (db_v 1))) (db_v 2)) (dm_val (de_mod (db_of (de_ty call_int1 cb_int rfl (c.free 1 rfl) bo_int (dab_cons (db_of (de_sub (db_v 3) (db_v 1))) (dab_nil)))) (db_v 2)) (dm_nil)))) (dss_one (ds_ret (de_add (db_of (de_add (db_of (de_bi (cr_sum rfl) cb_sum rfl (c.free 12 rfl) bo_sum (dab_cons (db_of (de_sl (db_v 0) (do_no) (do_at (db_v 1)))) (dab_nil)))) (db_of (de_mul (db_v 4) (db_of (de_bi (cr_sum rfl) cb_sum rfl (c.free 12 rfl) bo_sum (dab_cons (db_of (de_sl (db_v 0) (do_at (db_v 1)) (do_at (db_of (de_add (db_v 1) (db_v 2)))))) (dab_nil)))))))) (db_of (de_bi (cr_sum rfl) cb_sum rfl (c.free 12 rfl) bo_sum (dab_cons (db_of (de_sl (db_v 0) (do_at (db_v 1)) (do_at (db_of (de_add (db_v 1) (db_v 5)))))) (dab_nil))))))))
theorem sc__law_ring : FnScope ["stands", "at", "stand", "begin"] ["stands"] d__law_ring.scope := ⟨rfl, rfl, rfl, by decide +kernel, rfl, by decide +kernel, by decide +kernel⟩
def t1__law_ring : Tgt := gT 2 (gConsR (gV 1) (gConsR (gV 2) (gNilR))) ((gV 1).ix ++ ((gV 2).ix ++ []))
def b1__law_ring : Es := sIf (toB (eBin2 oIn (eVb 2) (eSl (eVb 0) (pNo) (pAt (eVb 1))))) (sSeq (sSet 3 (eMt oIdx (eVb 0) (eVb 2))) (sRt (eTup (aCons (eV 3) (aCons (eBin2 oSub (eVb 1) (eVb 3)) (aNil)))))) (sNx)
def g__law_ring : Es := sSeq (sFor (iVia enumOf (aCons (eV 0) (aNil))) (t1__law_ring) (b1__law_ring)) (sRt (eTup (aCons (eC (.int 0)) (aCons (eC (.int 0)) (aNil)))))
def F__law_ring : Fn := fnOf 4 g__law_ring
theorem ok__law_ring {P : Program} {w : World} {K : PySem.W.Frag} {mg : PySem.Str → Option Value} {base : Heap} (c : C K mg base) : OkD P w K mg base d__law_ring ["stands"] 1 F__law_ring :=
  OkD.mk (N := ["stands", "at", "stand", "begin"]) (f := He.ga K "_law_ring") (fd := (c.says.def_ 39 (d := d__law_ring) rfl).choose) (g := g__law_ring) (c.glo 68 rfl) (c.says.def_ 39 (d := d__law_ring) rfl).choose_spec sc__law_ring fun cdv A outer s H E B hr hgd =>
    have hu0 := hr.units0; have hu := hr.units; have hu1 := u1_of hr; have hu65 := u65_of hr
    dss_cons (ds_for (passes_of rfl) rfl (di_enum (da_cons (de_v 0) (da_nil)) rfl (c.free 15 rfl)) (dg_t rfl (dgs_cons (dg_v 1 sc__law_ring.nd) (dgs_cons (dg_v 2 sc__law_ring.nd) (dgs_nil)))) (dss_one (ds_if (dt_cmp2 (op_in_seq.or (op_inD hu65)) opb_in (db_v 2) (db_of (de_sl (db_v 0) (do_no) (do_at (db_v 1))))) (dss_cons (ds_set 3 (de_idx hu65 (db_v 0) (db_v 2)) sc__law_ring.nd) (dss_one (ds_ret (de_tup (da_cons (de_v 3) (da_cons (de_sub (db_v 1) (db_v 3)) (da_nil))))))) (dss_nil)))) (dss_one (ds_ret (de_tup (da_cons (de_int) (da_cons (de_int) (da_nil))))))
theorem sc__law_great : FnScope ["pot"] ["pot"] d__law_great.scope := ⟨rfl, rfl, rfl, by decide +kernel, rfl, by decide +kernel, by decide +kernel⟩
def g__law_great : Es := sRt (eCall F__law_pick (aCons (eV 0) (aCons (eFrz (nLst (aCons (eBin2 oPow (eC (.int 10)) (eC (.int 30))) (aCons (eBin2 oSub (eBin2 oPow (eC (.int 10)) (eC (.int 30))) (eC (.int 1))) (aCons (eBin2 oAdd (eBin2 oPow (eC (.int 10)) (eC (.int 18))) (eCall F__law_draw (aCons (eV 0) (aCons (eBin2 oPow (eC (.int 10)) (eC (.int 6))) (aNil))))) (aCons (eBin2 oAdd (eBin2 oPow (eC (.int 10)) (eC (.int 29))) (eC (.int 7))) (aCons (eCall F__law_draw (aCons (eV 0) (aCons (eBin2 oPow (eC (.int 10)) (eC (.int 9))) (aNil)))) (aCons (eC (.int 400)) (aCons (eC (.int 1)) (aCons (eC (.int 0)) (aNil))))))))))) (aNil))))
def F__law_great : Fn := fnOf 1 g__law_great
theorem ok__law_great {P : Program} {w : World} {K : PySem.W.Frag} {mg : PySem.Str → Option Value} {base : Heap} (c : C K mg base) : OkD P w K mg base d__law_great ["pot"] 3 F__law_great :=
  OkD.mk (N := ["pot"]) (f := He.ga K "_law_great") (fd := (c.says.def_ 40 (d := d__law_great) rfl).choose) (g := g__law_great) (c.glo 69 rfl) (c.says.def_ 40 (d := d__law_great) rfl).choose_spec sc__law_great fun cdv A outer s H E B hr hgd =>
    have hu0 := hr.units0; have hu := hr.units; have hu1 := u1_of hr; have hu65 := u65_of hr
    dss_one (ds_ret (de_call (ok__law_pick c) bp__law_pick (hr.mono (by decide)) hgd (takes_of rfl rfl rfl rfl) (da_cons (de_v 0) (da_cons (de_frz (dn_lst (da_cons (de_pow (db_of (de_int)) (db_of (de_int))) (da_cons (de_sub (db_of (de_pow (db_of (de_int)) (db_of (de_int)))) (db_of (de_int))) (da_cons (de_add (db_of (de_pow (db_of (de_int)) (db_of (de_int)))) (db_of (de_call (ok__law_draw c) bp__law_draw (hr.mono (by decide)) hgd (takes_of rfl rfl rfl rfl) (da_cons (de_v 0) (da_cons (de_pow (db_of (de_int)) (db_of (de_int))) (da_nil))) (ALen.cons (ALen.cons (ALen.nil))) rfl))) (da_cons (de_add (db_of (de_pow (db_of (de_int)) (db_of (de_int)))) (db_of (de_int))) (da_cons (de_call (ok__law_draw c) bp__law_draw (hr.mono (by decide)) hgd (takes_of rfl rfl rfl rfl) (da_cons (de_v 0) (da_cons (de_pow (db_of (de_int)) (db_of (de_int))) (da_nil))) (ALen.cons (ALen.cons (ALen.nil))) rfl) (da_cons (de_int) (da_cons (de_int) (da_cons (de_int) (da_nil))))))))))) (da_nil))) (ALen.cons (ALen.cons (ALen.nil))) rfl))
theorem sc__law_course_right : FnScope ["pot", "plant", "hand", "weather", "most", "numbers", "stands", "begin", "size", "moves", "shown", "due", "told", "letters", "places", "turn", "many", "letter", "row", "own", "heard", "late", "number", "stand", "one"] ["pot", "plant", "hand", "weather", "most"] d__law_course_right.scope := ⟨rfl, rfl, rfl, by decide +kernel, rfl, by decide +kernel, by decide +kernel⟩
def lt1__law_course_right : Tgt := gV 23
def lf1__law_course_right : Ev D := eBin2 oIx (eVb 23) (eC (.int 0))
def lt2__law_course_right : Tgt := gV 22
def lf2__law_course_right : Ev D := eBin2 oIx (eBin2 oIx (eVb 9) (eVb 22)) (eC (.int 1))
def lt3__law_course_right : Tgt := gV 24
def lf3__law_course_right : Ev D := eFn bInt (aCons (eBin2 oEq (eVb 24) (eVb 17)) (aNil))
def t1__law_course_right : Tgt := gV 15
def b1__law_course_right : Es := sSeq (sPar [16, 17] (mVal (eIf (toB (eBin2 oLt (eVb 15) (eC (.int 3)))) (eCall F__law_draw (aCons (eV 0) (aCons (eBin2 oSub (eVb 4) (eC (.int 1))) (aNil)))) (eCall F__law_great (aCons (eV 0) (aNil)))) (mVal (eCall F__law_draw (aCons (eV 0) (aCons (eBin2 oIx (eVb 1) (eC (.int 1))) (aNil)))) (mNil)))) (sSeq (sSet 18 (eFrz (nLc (iSeq (eV 13)) [24] (lt3__law_course_right) (bYes) (lf3__law_course_right)))) (sSeq (sSet 19 (eFrz (nLst (aCons (eCall F__law_late (aCons (eV 14) (aCons (eV 7) (aCons (eV 8) (aCons (eV 16) (aNil)))))) (aCons (eCall F__law_late (aCons (eV 13) (aCons (eV 7) (aCons (eV 8) (aCons (eV 16) (aNil)))))) (aCons (eCall F__law_sum (aCons (eV 18) (aCons (eV 7) (aCons (eV 8) (aCons (eV 16) (aNil)))))) (aNil))))))) (sSeq (sIf (bAnd (toB (eBin2 oLt (eVb 16) (eBin2 oSub (eVb 4) (eC (.int 1))))) (toB (eBin2 oNe (eVb 19) (eFrz (nLst (aCons (eBin2 oIx (eVb 14) (eVb 16)) (aCons (eBin2 oIx (eVb 13) (eVb 16)) (aCons (eMt oCnt (eSl (eVb 13) (pNo) (pAt (eVb 16))) (eVb 17)) (aNil))))))))) (sRt (eC (.bl false))) (sNx)) (sSeq (sNew 20 (nLst (aCons (eCall F_place_behind (aCons (eV 1) (aCons (eV 2) (aCons (eV 3) (aCons (eV 16) (aNil)))))) (aCons (eCall F_letter_at (aCons (eV 1) (aCons (eV 2) (aCons (eV 3) (aCons (eV 16) (aNil)))))) (aNil))))) (sSeq (sMu 20 mApp (eCall F_counted (aCons (eV 1) (aCons (eV 2) (aCons (eV 3) (aCons (eV 17) (aCons (eV 16) (aNil)))))))) (sSeq (sFz 20) (sSeq (sNew 21 (nLst (aCons (eCallK F_place_behind [3, 2, 1, 0] (aCons (eV 16) (aCons (eV 3) (aCons (eV 2) (aCons (eV 1) (aNil)))))) (aNil)))) (sSeq (sMu 21 mApp (eCallK F_letter_at [3, 2, 1, 0] (aCons (eV 16) (aCons (eV 3) (aCons (eV 2) (aCons (eV 1) (aNil))))))) (sSeq (sMu 21 mApp (eCallK F_counted [4, 3, 2, 1, 0] (aCons (eV 16) (aCons (eV 17) (aCons (eV 3) (aCons (eV 2) (aCons (eV 1) (aNil)))))))) (sSeq (sFz 21) (sIf (toB (eBin2 oNe (eFn bRepr (aCons (eFrz (nLst (aCons (eV 20) (aCons (eV 21) (aNil))))) (aNil))) (eFn bRepr (aCons (eFrz (nLst (aCons (eV 19) (aCons (eV 19) (aNil))))) (aNil))))) (sRt (eC (.bl false))) (sNx))))))))))))
def g__law_course_right : Es := sSeq (sUnp (gT 2 (gConsR (gV 5) (gConsR (gV 6) (gNilR))) ((gV 5).ix ++ ((gV 6).ix ++ []))) (eCall F__law_play (aCons (eV 1) (aCons (eV 2) (aCons (eV 3) (aCons (eV 4) (aNil))))))) (sSeq (sUnp (gT 2 (gConsR (gV 7) (gConsR (gV 8) (gNilR))) ((gV 7).ix ++ ((gV 8).ix ++ []))) (eCall F__law_ring (aCons (eV 6) (aNil)))) (sSeq (sPar [9, 10] (mVal (eCall F__law_moves (aCons (eV 1) (aNil))) (mVal (eFn bRepr (aCons (eFrz (nLst (aCons (eV 1) (aCons (eV 2) (aCons (eV 3) (aNil)))))) (aNil))) (mNil)))) (sSeq (sSet 11 (eTup (aCons (eSl (eVb 5) (pNo) (pAt (eVb 7))) (aCons (eSl (eVb 5) (pAt (eVb 7)) (pAt (eBin2 oAdd (eVb 7) (eVb 8)))) (aNil))))) (sSeq (sSet 12 (eCall F_course_p (aCons (eV 1) (aCons (eV 2) (aCons (eV 3) (aNil)))))) (sSeq (sIf (bOr (toB (eBin2 oNe (eFn bRepr (aCons (eVb 12) (aNil))) (eFn bRepr (aCons (eVb 11) (aNil))))) (toB (eBin2 oNe (eFn bRepr (aCons (eCallK F_course [2, 1, 0] (aCons (eV 3) (aCons (eV 2) (aCons (eV 1) (aNil))))) (aNil))) (eFn bRepr (aCons (eVb 11) (aNil)))))) (sRt (eC (.bl false))) (sNx)) (sSeq (sLApp (eBin2 oIx (eVb 12) (eC (.int 0))) (eC .non)) (sSeq (sLClr (eBin2 oIx (eVb 12) (eC (.int 1)))) (sSeq (sIf (toB (eBin2 oNe (eFn bRepr (aCons (eCall F_course (aCons (eV 1) (aCons (eV 2) (aCons (eV 3) (aNil))))) (aNil))) (eFn bRepr (aCons (eVb 11) (aNil))))) (sRt (eC (.bl false))) (sNx)) (sSeq (sPar [13, 14] (mVal (eFrz (nLc (iSeq (eV 5)) [22] (lt2__law_course_right) (bYes) (lf2__law_course_right))) (mVal (eFrz (nLc (iSeq (eV 6)) [23] (lt1__law_course_right) (bYes) (lf1__law_course_right))) (mNil)))) (sSeq (sFor (iRange (aCons (eC (.int 6)) (aNil))) (t1__law_course_right) (b1__law_course_right)) (sRt (eBin2 oEq (eFn bRepr (aCons (eFrz (nLst (aCons (eV 1) (aCons (eV 2) (aCons (eV 3) (aNil)))))) (aNil))) (eVb 10)))))))))))))
def F__law_course_right : Fn := fnOf 25 g__law_course_right
theorem ok__law_course_right {P : Program} {w : World} {K : PySem.W.Frag} {mg : PySem.Str → Option Value} {base : Heap} (c : C K mg base) : OkD P w K mg base d__law_course_right ["pot", "plant", "hand", "weather", "most"] 10 F__law_course_right :=
  OkD.mk (N := ["pot", "plant", "hand", "weather", "most", "numbers", "stands", "begin", "size", "moves", "shown", "due", "told", "letters", "places", "turn", "many", "letter", "row", "own", "heard", "late", "number", "stand", "one"]) (f := He.ga K "_law_course_right") (fd := (c.says.def_ 41 (d := d__law_course_right) rfl).choose) (g := g__law_course_right) (c.glo 70 rfl) (c.says.def_ 41 (d := d__law_course_right) rfl).choose_spec sc__law_course_right fun cdv A outer s H E B hr hgd =>
    have hu0 := hr.units0; have hu := hr.units; have hu1 := u1_of hr; have hu65 := u65_of hr
    dss_cons (ds_unp (de_call (ok__law_play c) bp__law_play (hr.mono (by decide)) hgd (takes_of rfl rfl rfl rfl) (da_cons (de_v 1) (da_cons (de_v 2) (da_cons (de_v 3) (da_cons (de_v 4) (da_nil))))) (ALen.cons (ALen.cons (ALen.cons (ALen.cons (ALen.nil))))) rfl) (dg_t rfl (dgs_cons (dg_v 5 sc__law_course_right.nd) (dgs_cons (dg_v 6 sc__law_course_right.nd) (dgs_nil))))) (dss_cons (ds_unp (de_call (ok__law_ring c) bp__law_ring (hr.mono (by decide)) hgd (takes_of rfl rfl rfl rfl) (da_cons (de_v 6) (da_nil)) (ALen.cons (ALen.nil)) rfl) (dg_t rfl (dgs_cons (dg_v 7 sc__law_course_right.nd) (dgs_cons (dg_v 8 sc__law_course_right.nd) (dgs_nil))))) (dss_cons (ds_parN rfl (dm_val (de_call (ok__law_moves c) bp__law_moves (hr.mono (by decide)) hgd (takes_of rfl rfl rfl rfl) (da_cons (de_v 1) (da_nil)) (ALen.cons (ALen.nil)) rfl) (dm_val (de_repr hgd hu rfl (c.free 27 rfl) bo_repr (dab_cons (db_of (de_frz (dn_lst (da_cons (de_v 1) (da_cons (de_v 2) (da_cons (de_v 3) (da_nil))))))) (dab_nil))) (dm_nil))) (nm_cons 9 sc__law_course_right.nd (nm_cons 10 sc__law_course_right.nd (nm_nil)))) (dss_cons (ds_set 11 (de_tup (da_cons (de_sl (db_v 5) (do_no) (do_at (db_v 7))) (da_cons (de_sl (db_v 5) (do_at (db_v 7)) (do_at (db_of (de_add (db_v 7) (db_v 8))))) (da_nil)))) sc__law_course_right.nd) (dss_cons (ds_set 12 (de_call (ok_course_p c) bp_course (hr.mono (by decide)) hgd (takes_of rfl rfl rfl rfl) (da_cons (de_v 1) (da_cons (de_v 2) (da_cons (de_v 3) (da_nil)))) (ALen.cons (ALen.cons (ALen.cons (ALen.nil)))) rfl) sc__law_course_right.nd) (dss_cons (ds_if (dt_w (dw_or (dt_cmp2 (op_ne.or (op_neD hu)) opb_ne (db_of (de_repr hgd hu rfl (c.free 27 rfl) bo_repr (dab_cons (db_v 12) (dab_nil)))) (db_of (de_repr hgd hu rfl (c.free 27 rfl) bo_repr (dab_cons (db_v 11) (dab_nil))))) (dw_or1 (dt_cmp2 (op_ne.or (op_neD hu)) opb_ne (db_of (de_repr hgd hu rfl (c.free 27 rfl) bo_repr (dab_cons (db_of (de_callK (ks := ["weather", "hand", "plant"]) [2, 1, 0] (ok_course c) (bk_course_210) (hr.mono (by decide)) hgd (takes_of rfl rfl rfl rfl) (dk_cons (de_v 3) (dk_cons (de_v 2) (dk_cons (de_v 1) (dk_nil)))) (ALen.cons (ALen.cons (ALen.cons (ALen.nil)))) rfl)) (dab_nil)))) (db_of (de_repr hgd hu rfl (c.free 27 rfl) bo_repr (dab_cons (db_v 11) (dab_nil)))))))) (dss_one (ds_ret (de_bl))) (dss_nil)) (dss_cons (ds_lapp (de_ix (db_v 12) (db_of (de_int))) (de_non)) (dss_cons (ds_lclr (de_ix (db_v 12) (db_of (de_int)))) (dss_cons (ds_if (dt_cmp2 (op_ne.or (op_neD hu)) opb_ne (db_of (de_repr hgd hu rfl (c.free 27 rfl) bo_repr (dab_cons (db_of (de_call (ok_course c) bp_course (hr.mono (by decide)) hgd (takes_of rfl rfl rfl rfl) (da_cons (de_v 1) (da_cons (de_v 2) (da_cons (de_v 3) (da_nil)))) (ALen.cons (ALen.cons (ALen.cons (ALen.nil)))) rfl)) (dab_nil)))) (db_of (de_repr hgd hu rfl (c.free 27 rfl) bo_repr (dab_cons (db_v 11) (dab_nil))))) (dss_one (ds_ret (de_bl))) (dss_nil)) (dss_cons (ds_par2 (i := 13) (j := 14) rfl sc__law_course_right.nd (dm_val (de_frz (dn_lc [("number", 22)] rfl sc__law_course_right.nd (dj_of (di_seq (de_v 5))) (blk_of (N := ["pot", "plant", "hand", "weather", "most", "numbers", "stands", "begin", "size", "moves", "shown", "due", "told", "letters", "places", "turn", "many", "letter", "row", "own", "heard", "late", "number", "stand", "one"]) (sc := d__law_course_right.scope) (by decide +kernel)) (by decide) (fun _ _ _ _ _ => dg_v 22 sc__law_course_right.nd) (fun _ _ _ _ _ => dts_nil) (fun _ _ _ _ _ => de_ix (db_of (de_ix (db_v 9) (db_v 22))) (db_of (de_int))))) (dm_val (de_frz (dn_lc [("stand", 23)] rfl sc__law_course_right.nd (dj_of (di_seq (de_v 6))) (blk_of (N := ["pot", "plant", "hand", "weather", "most", "numbers", "stands", "begin", "size", "moves", "shown", "due", "told", "letters", "places", "turn", "many", "letter", "row", "own", "heard", "late", "number", "stand", "one"]) (sc := d__law_course_right.scope) (by decide +kernel)) (by decide) (fun _ _ _ _ _ => dg_v 23 sc__law_course_right.nd) (fun _ _ _ _ _ => dts_nil) (fun _ _ _ _ _ => de_ix (db_v 23) (db_of (de_int))))) (dm_nil)))) (dss_cons (ds_for (passes_of rfl) rfl (di_range1 (da_cons (de_int) (da_nil)) (ALen.cons (ALen.nil)) rfl (c.free 17 rfl)) (dg_v 15 sc__law_course_right.nd) (dss_cons (ds_parN rfl (dm_val (de_if (dt_cmp2 (op_lt.or (op_ltT hu0)) opb_lt (db_v 15) (db_of (de_int))) (de_call (ok__law_draw c) bp__law_draw (hr.mono (by decide)) hgd (takes_of rfl rfl rfl rfl) (da_cons (de_v 0) (da_cons (de_sub (db_v 4) (db_of (de_int))) (da_nil))) (ALen.cons (ALen.cons (ALen.nil))) rfl) (de_call (ok__law_great c) bp__law_great (hr.mono (by decide)) hgd (takes_of rfl rfl rfl rfl) (da_cons (de_v 0) (da_nil)) (ALen.cons (ALen.nil)) rfl)) (dm_val (de_call (ok__law_draw c) bp__law_draw (hr.mono (by decide)) hgd (takes_of rfl rfl rfl rfl) (da_cons (de_v 0) (da_cons (de_ix (db_v 1) (db_of (de_int))) (da_nil))) (ALen.cons (ALen.cons (ALen.nil))) rfl) (dm_nil))) (nm_cons 16 sc__law_course_right.nd (nm_cons 17 sc__law_course_right.nd (nm_nil)))) (dss_cons (ds_setLc (i := 18) [("one", 24)] rfl sc__law_course_right.nd (dj_of (di_seq (de_v 13))) (blk_of (N := ["pot", "plant", "hand", "weather", "most", "numbers", "stands", "begin", "size", "moves", "shown", "due", "told", "letters", "places", "turn", "many", "letter", "row", "own", "heard", "late", "number", "stand", "one"]) (sc := d__law_course_right.scope) (by decide +kernel)) (by decide) (fun _ _ _ _ _ => dg_v 24 sc__law_course_right.nd) (fun _ _ _ _ _ => dts_nil) (fun _ _ _ _ _ => de_ty call_int1 cb_int rfl (c.free 1 rfl) bo_int (dab_cons (db_of (de_cmp2 (op_eq.or (op_eqD hu)) opb_eq (db_v 24) (db_v 17))) (dab_nil))) (sw_true rfl rfl rfl rfl)) (dss_cons (ds_set 19 (de_frz (dn_lst (da_cons (de_call (ok__law_late c) bp__law_late (hr.mono (by decide)) hgd (takes_of rfl rfl rfl rfl) (da_cons (de_v 14) (da_cons (de_v 7) (da_cons (de_v 8) (da_cons (de_v 16) (da_nil))))) (ALen.cons (ALen.cons (ALen.cons (ALen.cons (ALen.nil))))) rfl) (da_cons (de_call (ok__law_late c) bp__law_late (hr.mono (by decide)) hgd (takes_of rfl rfl rfl rfl) (da_cons (de_v 13) (da_cons (de_v 7) (da_cons (de_v 8) (da_cons (de_v 16) (da_nil))))) (ALen.cons (ALen.cons (ALen.cons (ALen.cons (ALen.nil))))) rfl) (da_cons (de_call (ok__law_sum c) bp__law_sum (hr.mono (by decide)) hgd (takes_of rfl rfl rfl rfl) (da_cons (de_v 18) (da_cons (de_v 7) (da_cons (de_v 8) (da_cons (de_v 16) (da_nil))))) (ALen.cons (ALen.cons (ALen.cons (ALen.cons (ALen.nil))))) rfl) (da_nil)))))) sc__law_course_right.nd) (dss_cons (ds_if (dt_w (dw_and (dt_cmp2 (op_lt.or (op_ltT hu0)) opb_lt (db_v 16) (db_of (de_sub (db_v 4) (db_of (de_int))))) (dw_and1 (dt_cmp2 (op_ne.or (op_neD hu)) opb_ne (db_v 19) (db_of (de_frz (dn_lst (da_cons (de_ix (db_v 14) (db_v 16)) (da_cons (de_ix (db_v 13) (db_v 16)) (da_cons (de_cnt (db_of (de_sl (db_v 13) (do_no) (do_at (db_v 16)))) (db_v 17)) (da_nil))))))))))) (dss_one (ds_ret (de_bl))) (dss_nil)) (dss_cons (ds_new 20 (dn_lst (da_cons (de_call (ok_place_behind c) bp_place_behind (hr.mono (by decide)) hgd (takes_of rfl rfl rfl rfl) (da_cons (de_v 1) (da_cons (de_v 2) (da_cons (de_v 3) (da_cons (de_v 16) (da_nil))))) (ALen.cons (ALen.cons (ALen.cons (ALen.cons (ALen.nil))))) rfl) (da_cons (de_call (ok_letter_at c) bp_letter_at (hr.mono (by decide)) hgd (takes_of rfl rfl rfl rfl) (da_cons (de_v 1) (da_cons (de_v 2) (da_cons (de_v 3) (da_cons (de_v 16) (da_nil))))) (ALen.cons (ALen.cons (ALen.cons (ALen.cons (ALen.nil))))) rfl) (da_nil)))) sc__law_course_right.nd) (dss_cons (ds_app 20 (de_call (ok_counted c) bp_counted (hr.mono (by decide)) hgd (takes_of rfl rfl rfl rfl) (da_cons (de_v 1) (da_cons (de_v 2) (da_cons (de_v 3) (da_cons (de_v 17) (da_cons (de_v 16) (da_nil)))))) (ALen.cons (ALen.cons (ALen.cons (ALen.cons (ALen.cons (ALen.nil)))))) rfl)) (dss_fz (dss_cons (ds_new 21 (dn_lst (da_cons (de_callK (ks := ["many", "weather", "hand", "plant"]) [3, 2, 1, 0] (ok_place_behind c) (bk_place_behind_3210) (hr.mono (by decide)) hgd (takes_of rfl rfl rfl rfl) (dk_cons (de_v 16) (dk_cons (de_v 3) (dk_cons (de_v 2) (dk_cons (de_v 1) (dk_nil))))) (ALen.cons (ALen.cons (ALen.cons (ALen.cons (ALen.nil))))) rfl) (da_nil))) sc__law_course_right.nd) (dss_cons (ds_app 21 (de_callK (ks := ["at", "weather", "hand", "plant"]) [3, 2, 1, 0] (ok_letter_at c) (bk_letter_at_3210) (hr.mono (by decide)) hgd (takes_of rfl rfl rfl rfl) (dk_cons (de_v 16) (dk_cons (de_v 3) (dk_cons (de_v 2) (dk_cons (de_v 1) (dk_nil))))) (ALen.cons (ALen.cons (ALen.cons (ALen.cons (ALen.nil))))) rfl)) (dss_cons (ds_app 21 (de_callK (ks := ["many", "letter", "weather", "hand", "plant"]) [4, 3, 2, 1, 0] (ok_counted c) (bk_counted_43210) (hr.mono (by decide)) hgd (takes_of rfl rfl rfl rfl) (dk_cons (de_v 16) (dk_cons (de_v 17) (dk_cons (de_v 3) (dk_cons (de_v 2) (dk_cons (de_v 1) (dk_nil)))))) (ALen.cons (ALen.cons (ALen.cons (ALen.cons (ALen.cons (ALen.nil)))))) rfl)) (dss_fz (dss_one (ds_if (dt_cmp2 (op_ne.or (op_neD hu)) opb_ne (db_of (de_repr hgd hu rfl (c.free 27 rfl) bo_repr (dab_cons (db_of (de_frz (dn_lst (da_cons (de_v 20) (da_cons (de_v 21) (da_nil)))))) (dab_nil)))) (db_of (de_repr hgd hu rfl (c.free 27 rfl) bo_repr (dab_cons (db_of (de_frz (dn_lst (da_cons (de_v 19) (da_cons (de_v 19) (da_nil)))))) (dab_nil))))) (dss_one (ds_ret (de_bl))) (dss_nil))))))))))))))) (dss_one (ds_ret (de_cmp2 (op_eq.or (op_eqD hu)) opb_eq (db_of (de_repr hgd hu rfl (c.free 27 rfl) bo_repr (dab_cons (db_of (de_frz (dn_lst (da_cons (de_v 1) (da_cons (de_v 2) (da_cons (de_v 3) (da_nil))))))) (dab_nil)))) (db_v 10))))))))))))))
theorem sc__law_counter : FnScope ["word", "takes", "first", "size", "nexts", "at"] ["word", "takes", "first", "size"] d__law_counter.scope := ⟨rfl, rfl, rfl, by decide +kernel, rfl, by decide +kernel, by decide +kernel⟩
def lt1__law_counter : Tgt := gV 5
def lf1__law_counter : Ev D := eBin2 oMul (eTup (aCons (eIf (toB (eBin2 oLt (eBin2 oAdd (eVb 5) (eC (.int 1))) (eBin2 oAdd (eVb 2) (eVb 3)))) (eBin2 oAdd (eVb 5) (eC (.int 1))) (eV 2)) (aNil))) (eC (.int 2))
def g__law_counter : Es := sSeq (sSet 4 (eFrz (nLc (iRange (aCons (eBin2 oAdd (eVb 2) (eVb 3)) (aNil))) [5] (lt1__law_counter) (bYes) (lf1__law_counter)))) (sRt (eTup (aCons (eV 0) (aCons (eBin2 oMul (eTup (aCons (eV 1) (aNil))) (eBin2 oAdd (eVb 2) (eVb 3))) (aCons (eFn bTup (aCons (eVb 4) (aNil))) (aNil))))))
def F__law_counter : Fn := fnOf 6 g__law_counter
theorem ok__law_counter {P : Program} {w : World} {K : PySem.W.Frag} {mg : PySem.Str → Option Value} {base : Heap} (c : C K mg base) : OkD P w K mg base d__law_counter ["word", "takes", "first", "size"] 1 F__law_counter :=
  OkD.mk (N := ["word", "takes", "first", "size", "nexts", "at"]) (f := He.ga K "_law_counter") (fd := (c.says.def_ 42 (d := d__law_counter) rfl).choose) (g := g__law_counter) (c.glo 71 rfl) (c.says.def_ 42 (d := d__law_counter) rfl).choose_spec sc__law_counter fun cdv A outer s H E B hr hgd =>
    have hu0 := hr.units0; have hu := hr.units; have hu1 := u1_of hr; have hu65 := u65_of hr
    dss_cons (ds_setLc (i := 4) [("at", 5)] rfl sc__law_counter.nd (dj_of (di_range1 (da_cons (de_add (db_v 2) (db_v 3)) (da_nil)) (ALen.cons (ALen.nil)) rfl (c.free 17 rfl))) (blk_of (N := ["word", "takes", "first", "size", "nexts", "at"]) (sc := d__law_counter.scope) (by decide +kernel)) (by decide) (fun _ _ _ _ _ => dg_v 5 sc__law_counter.nd) (fun _ _ _ _ _ => dts_nil) (fun _ _ _ _ _ => de_mul (db_of (de_tup (da_cons (de_if (dt_cmp2 (op_lt.or (op_ltT hu0)) opb_lt (db_of (de_add (db_v 5) (db_of (de_int)))) (db_of (de_add (db_v 2) (db_v 3)))) (de_add (db_v 5) (db_of (de_int))) (de_v 2)) (da_nil)))) (db_of (de_int))) (sw_true rfl rfl rfl rfl)) (dss_one (ds_ret (de_tup (da_cons (de_v 0) (da_cons (de_mul (db_of (de_tup (da_cons (de_v 1) (da_nil)))) (db_of (de_add (db_v 2) (db_v 3)))) (da_cons (de_ty call_tuple_of cb_tup rfl (c.free 4 rfl) bo_tuple (dab_cons (db_v 4) (dab_nil))) (da_nil)))))))
theorem sc__law_gcd : FnScope ["one", "other", "turn"] ["one", "other"] d__law_gcd.scope := ⟨rfl, rfl, rfl, by decide +kernel, rfl, by decide +kernel, by decide +kernel⟩
def t1__law_gcd : Tgt := gV 2
def b1__law_gcd : Es := sSeq (sIf (toB (eBin2 oEq (eVb 1) (eC (.int 0)))) (sRt (eV 0)) (sNx)) (sPar [0, 1] (mVal (eV 1) (mVal (eBin2 oMod (eFn bInt (aCons (eVb 0) (aNil))) (eVb 1)) (mNil))))
def g__law_gcd : Es := sSeq (sFor (iRange (aCons (eC (.int 12)) (aNil))) (t1__law_gcd) (b1__law_gcd)) (sRt (eV 0))
def F__law_gcd : Fn := fnOf 3 g__law_gcd
theorem ok__law_gcd {P : Program} {w : World} {K : PySem.W.Frag} {mg : PySem.Str → Option Value} {base : Heap} (c : C K mg base) : OkD P w K mg base d__law_gcd ["one", "other"] 1 F__law_gcd :=
  OkD.mk (N := ["one", "other", "turn"]) (f := He.ga K "_law_gcd") (fd := (c.says.def_ 43 (d := d__law_gcd) rfl).choose) (g := g__law_gcd) (c.glo 72 rfl) (c.says.def_ 43 (d := d__law_gcd) rfl).choose_spec sc__law_gcd fun cdv A outer s H E B hr hgd =>
    have hu0 := hr.units0; have hu := hr.units; have hu1 := u1_of hr; have hu65 := u65_of hr
    dss_cons (ds_for (passes_of rfl) rfl (di_range1 (da_cons (de_int) (da_nil)) (ALen.cons (ALen.nil)) rfl (c.free 17 rfl)) (dg_v 2 sc__law_gcd.nd) (dss_cons (ds_if (dt_cmp2 (op_eq.or (op_eqD hu)) opb_eq (db_v 1) (db_of (de_int))) (dss_one (ds_ret (de_v 0))) (dss_nil)) (dss_one (ds_par2 (i := 0) (j := 1) rfl sc__law_gcd.nd (dm_val (de_v 1) (dm_val (de_mod (db_of (de_ty call_int1 cb_int rfl (c.free 1 rfl) bo_int (dab_cons (db_v 0) (dab_nil)))) (db_v 1)) (dm_nil))))))) (dss_one (ds_ret (de_v 0)))
theorem sc__law_counters_right : FnScope ["pot", "plant", "first", "size", "other", "round_size", "hand", "weather", "spot", "nexts", "both", "begin", "known", "e", "due", "many", "row", "tick"] ["pot"] d__law_counters_right.scope := ⟨rfl, rfl, rfl, by decide +kernel, rfl, by decide +kernel, by decide +kernel⟩
def lt1__law_counters_right : Tgt := gV 16
def lf1__law_counters_right : Ev D := eBin2 oMul (eSl (eVb 16) (pNo) (pAt (eC (.int 1)))) (eC (.int 3))
def lt2__law_counters_right : Tgt := gV 16
def lf2__law_counters_right : Ev D := eBin2 oMul (eSl (eVb 16) (pNo) (pAt (eC (.int 1)))) (eC (.int 3))
def lt3__law_counters_right : Tgt := gV 17
def lf3__law_counters_right : Ev D := eFn bInt (aCons (eAnd (eBin2 oEq (eBin2 oMod (eVb 17) (eC (.int 2))) (eC (.int 1))) (eBin2 oEq (eIf (toB (eBin2 oLt (eVb 17) (eVb 4))) (eV 17) (eBin2 oAdd (eVb 4) (eBin2 oMod (eBin2 oSub (eVb 17) (eVb 4)) (eVb 5)))) (eVb 8))) (aNil))
def g__law_counters_right : Es := sSeq (sSet 1 (eTup (aCons (eC (.str "plant")) (aCons (eC (.int 2)) (aCons (eTup (aCons (eC (.int 0)) (aCons (eC (.int 1)) (aNil)))) (aCons (eTup (aCons (eTup (aCons (eTup (aCons (eC (.int 0)) (aCons (eC (.int 1)) (aNil)))) (aNil))) (aCons (eTup (aCons (eTup (aCons (eC (.int 0)) (aCons (eC (.int 0)) (aNil)))) (aCons (eTup (aCons (eC (.int 1)) (aCons (eC (.int 0)) (aNil)))) (aNil)))) (aNil)))) (aNil))))))) (sSeq (sPar [2, 3] (mVal (eCall F__law_draw (aCons (eV 0) (aCons (eC (.int 20)) (aNil)))) (mVal (eBin2 oAdd (eC (.int 1)) (eCall F__law_draw (aCons (eV 0) (aCons (eC (.int 40)) (aNil))))) (mNil)))) (sSeq (sPar [4, 5] (mVal (eCall F__law_pick (aCons (eV 0) (aCons (eFrz (nLst (aCons (eC (.int 0)) (aCons (eC (.int 0)) (aCons (eC (.int 117)) (aCons (eC (.int 300)) (aNil))))))) (aNil)))) (mVal (eBin2 oAdd (eC (.int 1)) (eCall F__law_draw (aCons (eV 0) (aCons (eC (.int 60)) (aNil))))) (mNil)))) (sSeq (sPar [6, 7] (mVal (eCall F__law_counter (aCons (eC (.str "hand")) (aCons (eTup (aCons (eC (.int 0)) (aCons (eC .non) (aNil)))) (aCons (eV 2) (aCons (eV 3) (aNil)))))) (mVal (eCall F__law_counter (aCons (eC (.str "weather")) (aCons (eTup (aCons (eC .non) (aCons (eC (.int 0)) (aNil)))) (aCons (eV 4) (aCons (eV 5) (aNil)))))) (mNil)))) (sSeq (sSet 8 (eBin2 oAdd (eVb 4) (eCall F__law_draw (aCons (eV 0) (aCons (eV 5) (aNil)))))) (sSeq (sSet 7 (eTup (aCons (eBin2 oIx (eVb 7) (eC (.int 0))) (aCons (eBin2 oAdd (eBin2 oAdd (eSl (eBin2 oIx (eVb 7) (eC (.int 1))) (pNo) (pAt (eVb 8))) (eTup (aCons (eTup (aCons (eC .non) (aCons (eC (.int 1)) (aNil)))) (aNil)))) (eSl (eBin2 oIx (eVb 7) (eC (.int 1))) (pAt (eBin2 oAdd (eVb 8) (eC (.int 1)))) (pNo))) (aCons (eBin2 oIx (eVb 7) (eC (.int 2))) (aNil)))))) (sSeq (sSet 9 (eFrz (nLc (iSeq (eBin2 oIx (eVb 7) (eC (.int 2)))) [16] (lt1__law_counters_right) (bYes) (lf1__law_counters_right)))) (sSeq (sPar [6, 7] (mVal (eTup (aCons (eBin2 oIx (eVb 6) (eC (.int 0))) (aCons (eBin2 oIx (eVb 6) (eC (.int 1))) (aCons (eFn bTup (aCons (eFrz (nLc (iSeq (eBin2 oIx (eVb 6) (eC (.int 2)))) [16] (lt2__law_counters_right) (bYes) (lf2__law_counters_right))) (aNil))) (aNil))))) (mVal (eTup (aCons (eBin2 oIx (eVb 7) (eC (.int 0))) (aCons (eBin2 oIx (eVb 7) (eC (.int 1))) (aCons (eFn bTup (aCons (eVb 9) (aNil))) (aNil))))) (mNil)))) (sSeq (sSet 10 (eBin2 oFdv (eBin2 oMul (eVb 3) (eVb 5)) (eCall F__law_gcd (aCons (eV 3) (aCons (eV 5) (aNil)))))) (sSeq (sSet 10 (eBin2 oFdv (eBin2 oMul (eVb 10) (eC (.int 2))) (eCall F__law_gcd (aCons (eV 10) (aCons (eC (.int 2)) (aNil)))))) (sSeq (sPar [11, 12] (mVal (eFn bMax2 (aCons (eVb 2) (aCons (eVb 4) (aNil)))) (mVal (eC .non) (mNil)))) (sSeq (sTryAs 13 "TooMany" (sSet 12 (eCall F_course (aCons (eV 1) (aCons (eV 6) (aCons (eV 7) (aNil)))))) (fun fs => sSet 12 (eLs (aCons (eFld "what" fs) (aCons (eFld "limit" fs) (aCons (eC (.bl true)) (aNil))))))) (sSeq (sIf (toB (eBin2 oGt (eBin2 oAdd (eVb 11) (eVb 10)) (eC (.int 2400)))) (sRt (eBin2 oEq (eFn bRepr (aCons (eVb 12) (aNil))) (eFn bRepr (aCons (eFrz (nLst (aCons (eC (.str "places")) (aCons (eC (.int 2400)) (aCons (eC (.bl true)) (aNil)))))) (aNil))))) (sNx)) (sSeq (sIf (toB (eBin2 oNe (eFn bRepr (aCons (eFrz (nLst (aCons (eFn bLen (aCons (eBin2 oIx (eVb 12) (eC (.int 0))) (aNil))) (aCons (eFn bLen (aCons (eBin2 oIx (eVb 12) (eC (.int 1))) (aNil))) (aNil))))) (aNil))) (eFn bRepr (aCons (eFrz (nLst (aCons (eV 11) (aCons (eV 10) (aNil))))) (aNil))))) (sRt (eC (.bl false))) (sNx)) (sSeq (sSet 14 (eFrz (nLc (iRange (aCons (eBin2 oAdd (eVb 11) (eVb 10)) (aNil))) [17] (lt3__law_counters_right) (bYes) (lf3__law_counters_right)))) (sSeq (sSet 15 (eCall F__law_great (aCons (eV 0) (aNil)))) (sRt (eBin2 oEq (eCall F_counted (aCons (eV 1) (aCons (eV 6) (aCons (eV 7) (aCons (eC (.int 1)) (aCons (eV 15) (aNil))))))) (eCall F__law_sum (aCons (eV 14) (aCons (eV 11) (aCons (eV 10) (aCons (eV 15) (aNil)))))))))))))))))))))))
def F__law_counters_right : Fn := fnOf 18 g__law_counters_right
theorem ok__law_counters_right {P : Program} {w : World} {K : PySem.W.Frag} {mg : PySem.Str → Option Value} {base : Heap} (c : C K mg base) : OkD P w K mg base d__law_counters_right ["pot"] 10 F__law_counters_right :=
  OkD.mk (N := ["pot", "plant", "first", "size", "other", "round_size", "hand", "weather", "spot", "nexts", "both", "begin", "known", "e", "due", "many", "row", "tick"]) (f := He.ga K "_law_counters_right") (fd := (c.says.def_ 44 (d := d__law_counters_right) rfl).choose) (g := g__law_counters_right) (c.glo 73 rfl) (c.says.def_ 44 (d := d__law_counters_right) rfl).choose_spec sc__law_counters_right fun cdv A outer s H E B hr hgd =>
    have hu0 := hr.units0; have hu := hr.units; have hu1 := u1_of hr; have hu65 := u65_of hr
    dss_cons (ds_set 1 (de_tup (da_cons (de_str) (da_cons (de_int) (da_cons (de_tup (da_cons (de_int) (da_cons (de_int) (da_nil)))) (da_cons (de_tup (da_cons (de_tup (da_cons (de_tup (da_cons (de_int) (da_cons (de_int) (da_nil)))) (da_nil))) (da_cons (de_tup (da_cons (de_tup (da_cons (de_int) (da_cons (de_int) (da_nil)))) (da_cons (de_tup (da_cons (de_int) (da_cons (de_int) (da_nil)))) (da_nil)))) (da_nil)))) (da_nil)))))) sc__law_counters_right.nd) (dss_cons (ds_par2 (i := 2) (j := 3) rfl sc__law_counters_right.nd (dm_val (de_call (ok__law_draw c) bp__law_draw (hr.mono (by decide)) hgd (takes_of rfl rfl rfl rfl) (da_cons (de_v 0) (da_cons (de_int) (da_nil))) (ALen.cons (ALen.cons (ALen.nil))) rfl) (dm_val (de_add (db_of (de_int)) (db_of (de_call (ok__law_draw c) bp__law_draw (hr.mono (by decide)) hgd (takes_of rfl rfl rfl rfl) (da_cons (de_v 0) (da_cons (de_int) (da_nil))) (ALen.cons (ALen.cons (ALen.nil))) rfl))) (dm_nil)))) (dss_cons (ds_parN rfl (dm_val (de_call (ok__law_pick c) bp__law_pick (hr.mono (by decide)) hgd (takes_of rfl rfl rfl rfl) (da_cons (de_v 0) (da_cons (de_frz (dn_lst (da_cons (de_int) (da_cons (de_int) (da_cons (de_int) (da_cons (de_int) (da_nil))))))) (da_nil))) (ALen.cons (ALen.cons (ALen.nil))) rfl) (dm_val (de_add (db_of (de_int)) (db_of (de_call (ok__law_draw c) bp__law_draw (hr.mono (by decide)) hgd (takes_of rfl rfl rfl rfl) (da_cons (de_v 0) (da_cons (de_int) (da_nil))) (ALen.cons (ALen.cons (ALen.nil))) rfl))) (dm_nil))) (nm_cons 4 sc__law_counters_right.nd (nm_cons 5 sc__law_counters_right.nd (nm_nil)))) (dss_cons (ds_par2 (i := 6) (j := 7) rfl sc__law_counters_right.nd (dm_val (de_call (ok__law_counter c) bp__law_counter (hr.mono (by decide)) hgd (takes_of rfl rfl rfl rfl) (da_cons (de_str) (da_cons (de_tup (da_cons (de_int) (da_cons (de_non) (da_nil)))) (da_cons (de_v 2) (da_cons (de_v 3) (da_nil))))) (ALen.cons (ALen.cons (ALen.cons (ALen.cons (ALen.nil))))) rfl) (dm_val (de_call (ok__law_counter c) bp__law_counter (hr.mono (by decide)) hgd (takes_of rfl rfl rfl rfl) (da_cons (de_str) (da_cons (de_tup (da_cons (de_non) (da_cons (de_int) (da_nil)))) (da_cons (de_v 4) (da_cons (de_v 5) (da_nil))))) (ALen.cons (ALen.cons (ALen.cons (ALen.cons (ALen.nil))))) rfl) (dm_nil)))) (dss_cons (ds_set 8 (de_add (db_v 4) (db_of (de_call (ok__law_draw c) bp__law_draw (hr.mono (by decide)) hgd (takes_of rfl rfl rfl rfl) (da_cons (de_v 0) (da_cons (de_v 5) (da_nil))) (ALen.cons (ALen.cons (ALen.nil))) rfl))) sc__law_counters_right.nd) (dss_cons (ds_set 7 (de_tup (da_cons (de_ix (db_v 7) (db_of (de_int))) (da_cons (de_add (db_of (de_add (db_of (de_sl (db_of (de_ix (db_v 7) (db_of (de_int)))) (do_no) (do_at (db_v 8)))) (db_of (de_tup (da_cons (de_tup (da_cons (de_non) (da_cons (de_int) (da_nil)))) (da_nil)))))) (db_of (de_sl (db_of (de_ix (db_v 7) (db_of (de_int)))) (do_at (db_of (de_add (db_v 8) (db_of (de_int))))) (do_no)))) (da_cons (de_ix (db_v 7) (db_of (de_int))) (da_nil))))) sc__law_counters_right.nd) (dss_cons (ds_setLc (i := 9) [("row", 16)] rfl sc__law_counters_right.nd (dj_of (di_seq (de_ix (db_v 7) (db_of (de_int))))) (blk_of (N := ["pot", "plant", "first", "size", "other", "round_size", "hand", "weather", "spot", "nexts", "both", "begin", "known", "e", "due", "many", "row", "tick"]) (sc := d__law_counters_right.scope) (by decide +kernel)) (by decide) (fun _ _ _ _ _ => dg_v 16 sc__law_counters_right.nd) (fun _ _ _ _ _ => dts_nil) (fun _ _ _ _ _ => de_mul (db_of (de_sl (db_v 16) (do_no) (do_at (db_of (de_int))))) (db_of (de_int))) (sw_true rfl rfl rfl rfl)) (dss_cons (ds_par2 (i := 6) (j := 7) rfl sc__law_counters_right.nd (dm_val (de_tup (da_cons (de_ix (db_v 6) (db_of (de_int))) (da_cons (de_ix (db_v 6) (db_of (de_int))) (da_cons (de_ty call_tuple_of cb_tup rfl (c.free 4 rfl) bo_tuple (dab_cons (db_of (de_frz (dn_lc [("row", 16)] rfl sc__law_counters_right.nd (dj_of (di_seq (de_ix (db_v 6) (db_of (de_int))))) (blk_of (N := ["pot", "plant", "first", "size", "other", "round_size", "hand", "weather", "spot", "nexts", "both", "begin", "known", "e", "due", "many", "row", "tick"]) (sc := d__law_counters_right.scope) (by decide +kernel)) (by decide) (fun _ _ _ _ _ => dg_v 16 sc__law_counters_right.nd) (fun _ _ _ _ _ => dts_nil) (fun _ _ _ _ _ => de_mul (db_of (de_sl (db_v 16) (do_no) (do_at (db_of (de_int))))) (db_of (de_int)))))) (dab_nil))) (da_nil))))) (dm_val (de_tup (da_cons (de_ix (db_v 7) (db_of (de_int))) (da_cons (de_ix (db_v 7) (db_of (de_int))) (da_cons (de_ty call_tuple_of cb_tup rfl (c.free 4 rfl) bo_tuple (dab_cons (db_v 9) (dab_nil))) (da_nil))))) (dm_nil)))) (dss_cons (ds_set 10 (de_fdv (db_of (de_mul (db_v 3) (db_v 5))) (db_of (de_call (ok__law_gcd c) bp__law_gcd (hr.mono (by decide)) hgd (takes_of rfl rfl rfl rfl) (da_cons (de_v 3) (da_cons (de_v 5) (da_nil))) (ALen.cons (ALen.cons (ALen.nil))) rfl))) sc__law_counters_right.nd) (dss_cons (ds_set 10 (de_fdv (db_of (de_mul (db_v 10) (db_of (de_int)))) (db_of (de_call (ok__law_gcd c) bp__law_gcd (hr.mono (by decide)) hgd (takes_of rfl rfl rfl rfl) (da_cons (de_v 10) (da_cons (de_int) (da_nil))) (ALen.cons (ALen.cons (ALen.nil))) rfl))) sc__law_counters_right.nd) (dss_cons (ds_par2 (i := 11) (j := 12) rfl sc__law_counters_right.nd (dm_val (de_bi (call_max2 rfl) cb_max2 rfl (c.free 24 rfl) bo_max (dab_cons (db_v 2) (dab_cons (db_v 4) (dab_nil)))) (dm_val (de_non) (dm_nil)))) (dss_cons (ds_tryAs (x := "TooMany") (i := 13) sc__law_counters_right.nd rfl rfl rfl rfl rfl (c.glo 3 rfl) (takes_of rfl rfl rfl rfl) (c.x_TooMany) (fun W2 pn xe tkT psT => dss_one (ds_set 12 (de_call (ok_course c) bp_course (hr.mono (by decide)) hgd tkT (da_cons (de_v 1) (da_cons (de_v 6) (da_cons (de_v 7) (da_nil)))) (ALen.cons (ALen.cons (ALen.cons (ALen.nil)))) rfl) sc__law_counters_right.nd)) (fun a dd oe fs pn B2 hz hv => su_set 12 (qs_cons (q_fld (C := "TooMany") (c.e_TooMany) (c.n_TooMany_what) hz hv) (qs_cons (q_fld (C := "TooMany") (c.e_TooMany) (c.n_TooMany_limit) hz hv) (qs_cons (q_isi (C := "TooMany") (c.e_TooMany) (c.k_TooMany_LimitError) hz hv rfl (c.free 0 rfl) rfl (c.glo 28 rfl) bo_isinstance) (qs_nil)))) sc__law_counters_right.nd)) (dss_cons (ds_if (dt_cmp2 op_gt opb_gt (db_of (de_add (db_v 11) (db_v 10))) (db_of (de_int))) (dss_one (ds_ret (de_cmp2 (op_eq.or (op_eqD hu)) opb_eq (db_of (de_repr hgd hu rfl (c.free 27 rfl) bo_repr (dab_cons (db_v 12) (dab_nil)))) (db_of (de_repr hgd hu rfl (c.free 27 rfl) bo_repr (dab_cons (db_of (de_frz (dn_lst (da_cons (de_str) (da_cons (de_int) (da_cons (de_bl) (da_nil))))))) (dab_nil))))))) (dss_nil)) (dss_cons (ds_if (dt_cmp2 (op_ne.or (op_neD hu)) opb_ne (db_of (de_repr hgd hu rfl (c.free 27 rfl) bo_repr (dab_cons (db_of (de_frz (dn_lst (da_cons (de_bi call_len cb_len rfl (c.free 5 rfl) bo_len (dab_cons (db_of (de_ix (db_v 12) (db_of (de_int)))) (dab_nil))) (da_cons (de_bi call_len cb_len rfl (c.free 5 rfl) bo_len (dab_cons (db_of (de_ix (db_v 12) (db_of (de_int)))) (dab_nil))) (da_nil)))))) (dab_nil)))) (db_of (de_repr hgd hu rfl (c.free 27 rfl) bo_repr (dab_cons (db_of (de_frz (dn_lst (da_cons (de_v 11) (da_cons (de_v 10) (da_nil)))))) (dab_nil))))) (dss_one (ds_ret (de_bl))) (dss_nil)) (dss_cons (ds_setLc (i := 14) [("tick", 17)] rfl sc__law_counters_right.nd (dj_of (di_range1 (da_cons (de_add (db_v 11) (db_v 10)) (da_nil)) (ALen.cons (ALen.nil)) rfl (c.free 17 rfl))) (blk_of (N := ["pot", "plant", "first", "size", "other", "round_size", "hand", "weather", "spot", "nexts", "both", "begin", "known", "e", "due", "many", "row", "tick"]) (sc := d__law_counters_right.scope) (by decide +kernel)) (by decide) (fun _ _ _ _ _ => dg_v 17 sc__law_counters_right.nd) (fun _ _ _ _ _ => dts_nil) (fun _ _ _ _ _ => de_ty call_int1 cb_int rfl (c.free 1 rfl) bo_int (dab_cons (db_of (de_and (de_cmp2 (op_eq.or (op_eqD hu)) opb_eq (db_of (de_mod (db_v 17) (db_of (de_int)))) (db_of (de_int))) (de_one (de_cmp2 (op_eq.or (op_eqD hu)) opb_eq (db_of (de_if (dt_cmp2 (op_lt.or (op_ltT hu0)) opb_lt (db_v 17) (db_v 4)) (de_v 17) (de_add (db_v 4) (db_of (de_mod (db_of (de_sub (db_v 17) (db_v 4))) (db_v 5)))))) (db_v 8))))) (dab_nil))) (sw_true rfl rfl rfl rfl)) (dss_cons (ds_set 15 (de_call (ok__law_great c) bp__law_great (hr.mono (by decide)) hgd (takes_of rfl rfl rfl rfl) (da_cons (de_v 0) (da_nil)) (ALen.cons (ALen.nil)) rfl) sc__law_counters_right.nd) (dss_one (ds_ret (de_cmp2 (op_eq.or (op_eqD hu)) opb_eq (db_of (de_call (ok_counted c) bp_counted (hr.mono (by decide)) hgd (takes_of rfl rfl rfl rfl) (da_cons (de_v 1) (da_cons (de_v 6) (da_cons (de_v 7) (da_cons (de_int) (da_cons (de_v 15) (da_nil)))))) (ALen.cons (ALen.cons (ALen.cons (ALen.cons (ALen.cons (ALen.nil)))))) rfl)) (db_of (de_call (ok__law_sum c) bp__law_sum (hr.mono (by decide)) hgd (takes_of rfl rfl rfl rfl) (da_cons (de_v 14) (da_cons (de_v 11) (da_cons (de_v 10) (da_cons (de_v 15) (da_nil))))) (ALen.cons (ALen.cons (ALen.cons (ALen.cons (ALen.nil))))) rfl))))))))))))))))))))
theorem sc_law : FnScope ["script", "pot", "turn", "plant", "hand", "weather"] ["script"] d_law.scope := ⟨rfl, rfl, rfl, by decide +kernel, rfl, by decide +kernel, by decide +kernel⟩
def t1_law : Tgt := gV 2
def b1_law : Es := sSeq (sSet 3 (eCall F__law_plant (aCons (eV 1) (aCons (eBin2 oAdd (eC (.int 1)) (eCall F__law_draw (aCons (eV 1) (aCons (eC (.int 4)) (aNil))))) (aCons (eBin2 oAdd (eC (.int 1)) (eCall F__law_draw (aCons (eV 1) (aCons (eC (.int 6)) (aNil))))) (aNil)))))) (sSeq (sPar [4, 5] (mVal (eCall F__law_machine (aCons (eV 1) (aCons (eV 3) (aCons (eC (.int 0)) (aCons (eBin2 oAdd (eC (.int 1)) (eCall F__law_draw (aCons (eV 1) (aCons (eC (.int 8)) (aNil))))) (aNil)))))) (mVal (eCall F__law_machine (aCons (eV 1) (aCons (eV 3) (aCons (eC (.int 1)) (aCons (eBin2 oAdd (eC (.int 1)) (eCall F__law_draw (aCons (eV 1) (aCons (eC (.int 12)) (aNil))))) (aNil)))))) (mNil)))) (sIf (bNot (toB (eCall F__law_course_right (aCons (eV 1) (aCons (eV 3) (aCons (eV 4) (aCons (eV 5) (aCons (eBin2 oAdd (eBin2 oMul (eBin2 oMul (eC (.int 6)) (eC (.int 8))) (eC (.int 12))) (eC (.int 2))) (aNil))))))))) (sRt (eC (.bl false))) (sNx)))
def g_law : Es := sSeq (sSet 1 (eCall F__law_pot (aCons (eV 0) (aCons (eC (.int 0)) (aNil))))) (sSeq (sFor (iRange (aCons (eC (.int 2)) (aNil))) (t1_law) (b1_law)) (sRt (eCall F__law_counters_right (aCons (eV 1) (aNil)))))
def F_law : Fn := fnOf 6 g_law
theorem ok_law {P : Program} {w : World} {K : PySem.W.Frag} {mg : PySem.Str → Option Value} {base : Heap} (c : C K mg base) : OkD P w K mg base d_law ["script"] 11 F_law :=
  OkD.mk (N := ["script", "pot", "turn", "plant", "hand", "weather"]) (f := He.ga K "law") (fd := (c.says.def_ 45 (d := d_law) rfl).choose) (g := g_law) (c.glo 74 rfl) (c.says.def_ 45 (d := d_law) rfl).choose_spec sc_law fun cdv A outer s H E B hr hgd =>
    have hu0 := hr.units0; have hu := hr.units; have hu1 := u1_of hr; have hu65 := u65_of hr
    dss_cons (ds_set 1 (de_call (ok__law_pot c) bp__law_pot (hr.mono (by decide)) hgd (takes_of rfl rfl rfl rfl) (da_cons (de_v 0) (da_cons (de_int) (da_nil))) (ALen.cons (ALen.cons (ALen.nil))) rfl) sc_law.nd) (dss_cons (ds_for (passes_of rfl) rfl (di_range1 (da_cons (de_int) (da_nil)) (ALen.cons (ALen.nil)) rfl (c.free 17 rfl)) (dg_v 2 sc_law.nd) (dss_cons (ds_set 3 (de_call (ok__law_plant c) bp__law_plant (hr.mono (by decide)) hgd (takes_of rfl rfl rfl rfl) (da_cons (de_v 1) (da_cons (de_add (db_of (de_int)) (db_of (de_call (ok__law_draw c) bp__law_draw (hr.mono (by decide)) hgd (takes_of rfl rfl rfl rfl) (da_cons (de_v 1) (da_cons (de_int) (da_nil))) (ALen.cons (ALen.cons (ALen.nil))) rfl))) (da_cons (de_add (db_of (de_int)) (db_of (de_call (ok__law_draw c) bp__law_draw (hr.mono (by decide)) hgd (takes_of rfl rfl rfl rfl) (da_cons (de_v 1) (da_cons (de_int) (da_nil))) (ALen.cons (ALen.cons (ALen.nil))) rfl))) (da_nil)))) (ALen.cons (ALen.cons (ALen.cons (ALen.nil)))) rfl) sc_law.nd) (dss_cons (ds_par2 (i := 4) (j := 5) rfl sc_law.nd (dm_val (de_call (ok__law_machine c) bp__law_machine (hr.mono (by decide)) hgd (takes_of rfl rfl rfl rfl) (da_cons (de_v 1) (da_cons (de_v 3) (da_cons (de_int) (da_cons (de_add (db_of (de_int)) (db_of (de_call (ok__law_draw c) bp__law_draw (hr.mono (by decide)) hgd (takes_of rfl rfl rfl rfl) (da_cons (de_v 1) (da_cons (de_int) (da_nil))) (ALen.cons (ALen.cons (ALen.nil))) rfl))) (da_nil))))) (ALen.cons (ALen.cons (ALen.cons (ALen.cons (ALen.nil))))) rfl) (dm_val (de_call (ok__law_machine c) bp__law_machine (hr.mono (by decide)) hgd (takes_of rfl rfl rfl rfl) (da_cons (de_v 1) (da_cons (de_v 3) (da_cons (de_int) (da_cons (de_add (db_of (de_int)) (db_of (de_call (ok__law_draw c) bp__law_draw (hr.mono (by decide)) hgd (takes_of rfl rfl rfl rfl) (da_cons (de_v 1) (da_cons (de_int) (da_nil))) (ALen.cons (ALen.cons (ALen.nil))) rfl))) (da_nil))))) (ALen.cons (ALen.cons (ALen.cons (ALen.cons (ALen.nil))))) rfl) (dm_nil)))) (dss_one (ds_if (dt_not (dt_val (de_call (ok__law_course_right c) bp__law_course_right (hr.mono (by decide)) hgd (takes_of rfl rfl rfl rfl) (da_cons (de_v 1) (da_cons (de_v 3) (da_cons (de_v 4) (da_cons (de_v 5) (da_cons (de_add (db_of (de_mul (db_of (de_mul (db_of (de_int)) (db_of (de_int)))) (db_of (de_int)))) (db_of (de_int))) (da_nil)))))) (ALen.cons (ALen.cons (ALen.cons (ALen.cons (ALen.cons (ALen.nil)))))) rfl))) (dss_one (ds_ret (de_bl))) (dss_nil)))))) (dss_one (ds_ret (de_call (ok__law_counters_right c) bp__law_counters_right (hr.mono (by decide)) hgd (takes_of rfl rfl rfl rfl) (da_cons (de_v 1) (da_nil)) (ALen.cons (ALen.nil)) rfl))))
end K76
set_option Elab.async false
set_option linter.all false
set_option maxRecDepth 100000
set_option maxHeartbeats 4000000
namespace K76
open PySem L2 DL
/-! ### numbers -/
theorem is_integer_int (i : Int) (S : Store) : F_is_integer [.int i] S = .ok (.bl true) S := by
  simp [F_is_integer, fnOf, g_is_integer, Kd.isa]
theorem is_integer_non (S : Store) : F_is_integer [.non] S = .ok (.bl false) S := by
  simp [F_is_integer, fnOf, g_is_integer, Kd.isa]
theorem is_count_int (i : Int) (S : Store) : F_is_count [.int i] S = .ok (.bl (decide (0 ≤ i))) S := by
  simp [F_is_count, fnOf, g_is_count, is_integer_int]
/-! ### the pot -/
/-- the pot stands first in the store -/
def Pot (S : Store) (R : Store) : Prop := ∃ a b : Int, S = .lst [.int a, .int b] :: R ∧ 0 ≤ a ∧ 0 ≤ b ∧ b < 4294967296
theorem mulOk_small {i j : Int} (h1 : -18446744073709551616 < j) (h2 : j < 18446744073709551616) : mulOk i j = true := by
  unfold mulOk
  simp
  right
  omega
theorem divOk_of {i j : Int} (h1 : 0 < j) (h2 : j < 1073741824) : divOk i j = true := by
  unfold divOk
  simp
  omega
theorem draw {S R : Store} {m : Int} (h : Pot S R) (h1 : 1 ≤ m) (h2 : m < 1073741824) : ∃ (d : Int) (S' : Store), F__law_draw [.loc 0, .int m] S = .ok (.int d) S' ∧ Pot S' R ∧ 0 ≤ d ∧ d < m := by
  obtain ⟨a, b, rfl, ha, hb, hb2⟩ := h
  by_cases h : 0 < a
  · refine ⟨a % m, .lst [.int (a / m), .int b] :: R, ?_, ⟨a / m, b, rfl, Int.ediv_nonneg ha (by omega), hb, hb2⟩, Int.emod_nonneg _ (by omega), Int.emod_lt_of_pos _ (by omega)⟩
    have hd : divOk a m = true := divOk_of (by omega) h2
    simp [F__law_draw, fnOf, g__law_draw, h, hd]
  · have h3 : mulOk b 40692 = true := mulOk_small (by omega) (by omega)
    have e0 : 0 ≤ (b * 40692 + 9311) % 2147483587 := Int.emod_nonneg _ (by omega)
    have e1 : (b * 40692 + 9311) % 2147483587 < 2147483587 := Int.emod_lt_of_pos _ (by omega)
    generalize hz : (b * 40692 + 9311) % 2147483587 = z at e0 e1
    have h4 : mulOk z z = true := mulOk_small (by omega) (by omega)
    have h5 : divOk (z * z % 2147483549) 17 = true := divOk_of (by omega) (by omega)
    have h6 : 0 < m := by omega
    refine ⟨z * z % 2147483549 / 17 % m, .lst [.int a, .int z] :: R, ?_, ⟨a, z, rfl, ha, e0, by omega⟩, Int.emod_nonneg _ (by omega), Int.emod_lt_of_pos _ (by omega)⟩
    simp [F__law_draw, fnOf, g__law_draw, h, h3, h4, h5, h6, hz]
theorem powOk_18 : powOk 10 18 = true := by decide
theorem pot_fin (cell : Int) (hc : 0 ≤ cell) : Pot [.lst [.int (if cell - 1000000000000000000 > 0 then cell - 1000000000000000000 else 0), .int ((cell % 2147483549 * 40014 + 461) % 2147483563 + 1)]] [] := by
  refine ⟨_, _, rfl, ?_, ?_, ?_⟩
  · split <;> omega
  · have := Int.emod_nonneg (cell % 2147483549 * 40014 + 461) (b := 2147483563) (by omega)
    omega
  · have := Int.emod_lt_of_pos (cell % 2147483549 * 40014 + 461) (b := 2147483563) (by omega)
    omega
theorem law_pot (ns : List Int) : ∃ S, F__law_pot [.kst (ns.map .int), .int 0] [] = .ok (.loc 0) S ∧ Pot S [] := by
  have key : ∀ cell : Int, 0 ≤ cell → mulOk (cell % 2147483549) 40014 = true := fun cell _ => mulOk_small (by omega) (by omega)
  have m0 : mulOk 6173 0 = true := by decide
  have m1 : mulOk 751 0 = true := by decide
  have p18 := powOk_18
  cases ns with
  | nil =>
    refine ⟨_, ?_, pot_fin 127 (by omega)⟩
    have k : mulOk 127 40014 = true := by decide
    simp [F__law_pot, fnOf, g__law_pot, m0, m1, k, p18]
  | cons n ns =>
    refine ⟨_, ?_, pot_fin (if n < 0 then -n else n) (by split <;> omega)⟩
    have k := key (if n < 0 then -n else n) (by split <;> omega)
    simp [F__law_pot, fnOf, g__law_pot, m0, m1, k, p18]
end K76
set_option Elab.async false
set_option linter.all false
set_option maxRecDepth 100000
set_option maxHeartbeats 4000000
namespace K76
open PySem L2 DL
/-! ### data -/
abbrev Mv := Int × Int
def tI2 (m : Mv) : D := .tup [.int m.1, .int m.2]
def rowD (r : List Mv) : D := .tup (r.map tI2)
def tI3 (m : Int × Int × Int) : D := .tup [.int m.1, .int m.2.1, .int m.2.2]
def plD (L : Int) (ow : List Int) (rows : List (List Mv)) : D := .tup [.str "plant", .int L, .tup (ow.map .int), .tup (rows.map rowD)]
def opD : Option Int → D
  | none => .non
  | some i => .int i
def tkD (t : List (Option Int)) : D := .tup (t.map opD)
def nxD (t : List Int) : D := .tup (t.map .int)
def mcD (w : PySem.Str) (tk : List (List (Option Int))) (nx : List (List Int)) : D := .tup [.str w, .tup (tk.map tkD), .tup (nx.map nxD)]
def mvsA (n : Int) : List (List Mv) → List (Int × Int × Int)
  | [] => []
  | r :: rs => r.map (fun m => (n, m.1, m.2)) ++ mvsA (n + 1) rs
def mvs (rows : List (List Mv)) : List (Int × Int × Int) := mvsA 0 rows
def numsA (a : Int) : List (List Mv) → List (List Int)
  | [] => []
  | r :: rs => ((List.range r.length).map fun (i : Nat) => a + (i : Int)) :: numsA (a + (r.length : Int)) rs
def nums (rows : List (List Mv)) : List (List Int) := numsA 0 rows
theorem mvsA_length (n : Int) (rows : List (List Mv)) : (mvsA n rows).length = (rows.map List.length).sum := by
  induction rows generalizing n with
  | nil => rfl
  | cons r rs ih => simp [mvsA, ih]
theorem numsA_length (a : Int) (rows : List (List Mv)) : (numsA a rows).length = rows.length := by
  induction rows generalizing a with
  | nil => rfl
  | cons r rs ih => simp [numsA, ih]
/-! ### enumerate from a place -/
def enumF (n : Nat) : List D → List D
  | [] => []
  | d :: ds => .tup [.int (n : Int), d] :: enumF (n + 1) ds
theorem enumF_eq (ds : List D) : ∀ n, ds.mapIdx (fun i d => D.tup [.int ((n + i : Nat) : Int), d]) = enumF n ds := by
  induction ds with
  | nil => intro n; rfl
  | cons d ds ih =>
    intro n
    rw [List.mapIdx_cons]
    unfold enumF
    rw [← ih (n + 1)]
    simp [Nat.add_assoc, Nat.add_comm 1]
theorem enumD_eq (ds : List D) : enumD ds = enumF 0 ds := by
  rw [← enumF_eq]
  unfold enumD
  simp
/-! ### moves -/
theorem moves_loop (pl : D) (S : Store) : ∀ (rows : List (List Mv)) (n : Nat) (acc : List D) (x y : Option Sl), acc.length + (mvsA n rows).length ≤ 16777216 →
    ∃ x' y', forL t1_moves_of b1_moves_of (enumF n (rows.map rowD)) [some (.val pl), some (.own (.lst acc)), x, y, none, none] S = .nx [some (.val pl), some (.own (.lst (acc ++ (mvsA n rows).map tI3))), x', y', none, none] S
  | [], n, acc, x, y, _ => ⟨x, y, by simp [enumF, forL, mvsA]⟩
  | r :: rs, n, acc, x, y, h => by
    have hl : acc.length + (r.length + (mvsA ((n : Int) + 1) rs).length) ≤ 16777216 := by simpa [mvsA] using h
    obtain ⟨x', y', e⟩ := moves_loop pl S rs (n + 1) (acc ++ r.map fun m => tI3 (n, m.1, m.2)) (some (.val (.int n))) (some (.val (rowD r))) (by
      rw [List.length_append, List.length_map]
      have : ((n + 1 : Nat) : Int) = (n : Int) + 1 := by omega
      rw [this]
      omega)
    refine ⟨x', y', ?_⟩
    have lc : lcL lt1_moves_of bYes lf1_moves_of [some (.val pl), some (.own (.lst acc)), some (.val (.int n)), some (.val (.tup (r.map tI2))), none, none] (r.map tI2) S = .ok (r.map fun m => tI3 (n, m.1, m.2)) S := by
      refine lcL_all tI2 (fun m => tI3 (n, m.1, m.2)) r fun m _ => ?_
      simp [lt1_moves_of, lf1_moves_of, tI2, tI3]
    have h1 : r.length ≤ 16777216 := by omega
    have h2 : acc.length + r.length ≤ 16777216 := by omega
    have e1 : ((n + 1 : Nat) : Int) = (n : Int) + 1 := by omega
    rw [List.map_cons, enumF, forL_nx (Γ1 := [some (.val pl), some (.own (.lst acc)), some (.val (.int n)), some (.val (rowD r)), none, none]) (by simp [t1_moves_of]) (by simp [b1_moves_of, rowD, lc, h1, h2]; exact ⟨rfl, rfl⟩)]
    rw [show rowD r = .tup (r.map tI2) from rfl] at e
    rw [e, e1]
    simp [mvsA, Function.comp_def]
theorem moves_of (L : Int) (ow : List Int) (rows : List (List Mv)) (S : Store) (h : (mvs rows).length ≤ 16777216) : F_moves_of [plD L ow rows] S = .ok (.lst ((mvs rows).map tI3)) S := by
  obtain ⟨x, y, e⟩ := moves_loop (plD L ow rows) S rows 0 [] none none (by simpa [mvs] using h)
  simp only [plD] at e ⊢
  simp [F_moves_of, fnOf, g_moves_of, enumD_eq, e, mvs]
end K76
set_option Elab.async false
set_option linter.all false
set_option maxRecDepth 100000
set_option maxHeartbeats 4000000
namespace K76
open PySem L2 DL
/-! ### slices at plain places -/
theorem cutD_from {ds : List D} (a : Nat) : cutD ds (some (a : Int)) none = ds.drop a := by
  unfold cutD
  rw [HT.sIx_nat, HT.sIx_none]
  by_cases h : a ≤ ds.length
  · rw [Nat.min_eq_left h, List.take_of_length_le (by simp)]
  · rw [Nat.min_eq_right (by omega), List.drop_of_length_le (Nat.le_refl _), List.drop_of_length_le (by omega)]
    simp
theorem cutD_to {ds : List D} (b : Nat) : cutD ds none (some (b : Int)) = ds.take b := by
  unfold cutD
  rw [HT.sIx_nat, HT.sIx_none, List.drop_zero, Nat.sub_zero]
  by_cases h : b ≤ ds.length
  · rw [Nat.min_eq_left h]
  · rw [Nat.min_eq_right (by omega), List.take_length, List.take_of_length_le (by omega)]
theorem cutD_mid {ds : List D} (a b : Nat) : cutD ds (some (a : Int)) (some (b : Int)) = (ds.drop a).take (b - a) := by
  unfold cutD
  rw [HT.sIx_nat, HT.sIx_nat]
  by_cases ha : a ≤ ds.length
  · rw [Nat.min_eq_left ha]
    by_cases hb : b ≤ ds.length
    · rw [Nat.min_eq_left hb]
    · rw [Nat.min_eq_right (show ds.length ≤ b by omega), List.take_of_length_le (i := ds.length - a) (by rw [List.length_drop]; omega), List.take_of_length_le (i := b - a) (by rw [List.length_drop]; omega)]
  · rw [Nat.min_eq_right (show ds.length ≤ a by omega), List.drop_length, List.drop_of_length_le (show ds.length ≤ a by omega)]
    simp
@[simp] theorem cutD_1 {ds : List D} : cutD ds (some 1) none = ds.tail := by
  rw [← List.drop_one]; exact cutD_from 1
theorem zips_map {α β : Type} (f : α → D) (g : β → D) (l : List α) (m : List β) : zips (l.map f) (m.map g) = (l.zip m).map fun p => .tup [f p.1, g p.2] := by
  unfold zips
  rw [List.zipWith_map, List.zip, List.map_zipWith]
structure PlOk (L : Int) (ow : List Int) (rows : List (List Mv)) : Prop where
  l1 : 1 ≤ L
  l4 : L ≤ 4
  len : ow.length = rows.length
  n1 : 1 ≤ rows.length
  n24 : rows.length ≤ 24
  own : ∀ o ∈ ow, 0 ≤ o ∧ o < 2
  row : ∀ r ∈ rows, 1 ≤ r.length ∧ r.length ≤ 24
  mv : ∀ r ∈ rows, ∀ m ∈ r, 0 ≤ m.1 ∧ m.1 < L ∧ 0 ≤ m.2 ∧ m.2 < rows.length
  inc : ∀ r ∈ rows, ∀ p ∈ r.zip r.tail, HT.lexLt [p.1.1, p.1.2] [p.2.1, p.2.2] = true
  tot : (rows.map List.length).sum ≤ 200
theorem is_move_of {L n : Int} {m : Mv} (S : Store) (h1 : 0 ≤ m.1) (h2 : m.1 < L) (h3 : 0 ≤ m.2) (h4 : m.2 < n) : F_is_move_of [.int L, .int n, tI2 m] S = .ok (.bl true) S := by
  simp [F_is_move_of, fnOf, g_is_move_of, tI2, Kd.isa, is_count_int, h1, h2, h3, h4]
theorem are_place_moves {L n : Int} {r : List Mv} (S : Store) (h1 : 1 ≤ r.length) (h2 : r.length ≤ 24) (hm : ∀ m ∈ r, 0 ≤ m.1 ∧ m.1 < L ∧ 0 ≤ m.2 ∧ m.2 < n) (hi : ∀ p ∈ r.zip r.tail, HT.lexLt [p.1.1, p.1.2] [p.2.1, p.2.2] = true) :
    F_are_place_moves [.int L, .int n, rowD r] S = .ok (.bl true) S := by
  have l1 : ∀ Γ5 Γ4 : Option Sl, lcL lt1_are_place_moves bYes lf1_are_place_moves [some (.val (.int L)), some (.val (.int n)), some (.val (.tup (r.map tI2))), none, Γ4, Γ5] (r.map tI2) S = .ok (r.map fun _ => .bl true) S := fun _ _ =>
    lcL_all tI2 (fun _ => .bl true) r fun m hm' => by
      obtain ⟨a, b, c, d⟩ := hm m hm'
      simp [lt1_are_place_moves, lf1_are_place_moves, is_move_of S a b c d]
  have l2 : ∀ Γ3 : Option Sl, lcL lt2_are_place_moves bYes lf2_are_place_moves [some (.val (.int L)), some (.val (.int n)), some (.val (.tup (r.map tI2))), Γ3, none, none] (zips (r.map tI2) (r.map tI2).tail) S = .ok ((r.zip r.tail).map fun _ => .bl true) S := fun _ => by
    rw [← List.map_tail, zips_map]
    refine lcL_all (fun p : Mv × Mv => .tup [tI2 p.1, tI2 p.2]) (fun _ => .bl true) _ fun p hp => ?_
    have := hi p hp
    simp [lt2_are_place_moves, lf2_are_place_moves, tI2, oLt, intsOf, this]
  have z1 : (1 : Int) ≤ (r.length : Int) := by omega
  have z2 : (r.length : Int) ≤ 24 := by omega
  have z3 : r.length ≤ 16777216 := by omega
  have z4 : (zips (r.map tI2) (r.map tI2).tail).length ≤ 16777216 := by rw [zips_length]; simp; omega
  have b1 := blsOf_map (fun _ : Mv => true) r
  have b2 := blsOf_map (fun _ : Mv × Mv => true) (r.zip r.tail)
  simp [F_are_place_moves, fnOf, g_are_place_moves, rowD, Kd.isa, z1, z2, z3, z4, l1, l2, b1, b2]
end K76
set_option Elab.async false
set_option linter.all false
set_option maxRecDepth 100000
set_option maxHeartbeats 4000000
namespace K76
open PySem L2 DL
theorem are_owners_of {ow : List Int} (S : Store) (h1 : 1 ≤ ow.length) (h2 : ow.length ≤ 24) (h : ∀ o ∈ ow, 0 ≤ o ∧ o < 2) : F_are_owners_of [.tup (ow.map .int)] S = .ok (.bl true) S := by
  have l1 : ∀ Γ, lcL lt1_are_owners_of bYes lf1_are_owners_of [some (.val (.tup (ow.map .int))), Γ] (ow.map .int) S = .ok (ow.map fun _ => .bl true) S := fun _ =>
    lcL_all .int (fun _ => .bl true) ow fun o ho => by
      obtain ⟨a, b⟩ := h o ho
      simp [lt1_are_owners_of, lf1_are_owners_of, is_count_int, a, b]
  have z1 : (1 : Int) ≤ (ow.length : Int) := by omega
  have z2 : (ow.length : Int) ≤ 24 := by omega
  have z3 : ow.length ≤ 16777216 := by omega
  have b1 := blsOf_map (fun _ : Int => true) ow
  simp [F_are_owners_of, fnOf, g_are_owners_of, Kd.isa, z1, z2, z3, l1, b1]
theorem is_plant_of {L : Int} {ow : List Int} {rows : List (List Mv)} (S : Store) (P : PlOk L ow rows) : F_is_plant_of [.int L, plD L ow rows] S = .ok (.bl true) S := by
  have hn : (ow.length : Int) = (rows.length : Int) := by rw [P.len]
  have l1 : ∀ Γ2 Γ3 : Option Sl, lcL lt1_is_plant_of bYes lf1_is_plant_of [some (.val (.int L)), some (.val (plD L ow rows)), Γ2, Γ3, some (.val (.tup (ow.map .int))), some (.val (.tup (rows.map rowD))), none] (rows.map rowD) S = .ok (rows.map fun _ => .bl true) S := fun _ _ =>
    lcL_all rowD (fun _ => .bl true) rows fun r hr => by
      have a := (P.row r hr).1
      have b := (P.row r hr).2
      have e := are_place_moves (n := rows.length) S a b (P.mv r hr) (P.inc r hr)
      simp [lt1_is_plant_of, lf1_is_plant_of, hn, e]
  have l2 : ∀ Γ0 Γ1 Γ2 Γ3 Γ4 Γ5 : Option Sl, lcL lt2_is_plant_of bYes lf2_is_plant_of [Γ0, Γ1, Γ2, Γ3, Γ4, Γ5, none] (rows.map rowD) S = .ok (rows.map fun r => .int (r.length : Int)) S := fun _ _ _ _ _ _ =>
    lcL_all rowD (fun r => .int (r.length : Int)) rows fun r hr => by
      simp [lt2_is_plant_of, lf2_is_plant_of, rowD]
  have e1 := are_owners_of (ow := ow) S (by rw [P.len]; exact P.n1) (by rw [P.len]; exact P.n24) P.own
  have z0 : 0 ≤ L := by have := P.l1; omega
  have z3 : rows.length ≤ 16777216 := by have := P.n24; omega
  have b1 := blsOf_map (fun _ : List Mv => true) rows
  have b2 := intsOf_mapI (fun r : List Mv => (r.length : Int)) rows
  have z5 : (rows.map fun r => (r.length : Int)).sum ≤ 200 := by
    have e : ∀ l : List (List Mv), (l.map fun r => (r.length : Int)).sum = ((l.map List.length).sum : Nat) := fun l => by
      induction l with
      | nil => rfl
      | cons a l ih => simp [ih]
    rw [e]
    have := P.tot
    omega
  simp only [plD] at l1 ⊢
  simp [F_is_plant_of, fnOf, g_is_plant_of, plD, Kd.isa, is_count_int, z0, e1, P.len, l1, l2, z3, b1, b2, z5]
theorem is_any_plant {L : Int} {ow : List Int} {rows : List (List Mv)} (S : Store) (P : PlOk L ow rows) : F_is_any_plant [plD L ow rows] S = .ok (.bl true) S := by
  have e := is_plant_of S P
  have z0 : 0 ≤ L := by have := P.l1; omega
  simp only [plD] at e ⊢
  simp [F_is_any_plant, fnOf, g_is_any_plant, Kd.isa, is_count_int, z0, e, P.l1, P.l4]
theorem want_plant {L : Int} {ow : List Int} {rows : List (List Mv)} (S : Store) (P : PlOk L ow rows) : F_want_plant [plD L ow rows] S = .ok (plD L ow rows) S := by
  have e := is_any_plant S P
  simp [F_want_plant, fnOf, g_want_plant, e]
/-! ### numbers_of -/
theorem rng_rg (a : Int) (n : Nat) : rngD a n = ((List.range n).map fun (i : Nat) => a + (i : Int)).map .int := by
  rw [rngD_eq, List.map_map]; rfl
def lstI (l : List Int) : D := .lst (l.map .int)
theorem numbers_step (pl : D) (acc : List D) (a : Int) (r : List Mv) (S : Store) (g2 : acc.length < 16777216) (g1 : rgOk a (a + (r.length : Int)) = true) :
    b1_numbers_of [some (.val pl), some (.own (.lst acc)), some (.val (.int a)), some (.val (rowD r))] S =
     .nx [some (.val pl), some (.own (.lst (acc ++ [.lst (rngD a (a + (r.length : Int) - a).toNat)]))), some (.val (.int (a + r.length))), some (.val (rowD r))] S := by
  simp only [b1_numbers_of, c_sSeq, c_sSet, seqR_nx, c_sMu, List.getElem?_cons_succ, List.getElem?_cons_zero, c_eFrz, c_nRg2, c_eVb, RE.bind_ok, c_eBin2, c_eFn, c_aCons, c_aNil, rowD, o_lenT, o_add, List.length_map, g1, if_true, bindS_ok, m_app, sz_eq, g2, List.set_cons_succ, List.set_cons_zero]
theorem numbers_loop (pl : D) (S : Store) (rows : List (List Mv)) : ∀ (a : Nat) (acc : List D) (x : Option Sl), acc.length + rows.length ≤ 1000000 → (∀ r ∈ rows, r.length ≤ 1000000) → a + (rows.map List.length).sum ≤ 1000000 →
    ∃ x', forL t1_numbers_of b1_numbers_of (rows.map rowD) [some (.val pl), some (.own (.lst acc)), some (.val (.int a)), x] S = .nx [some (.val pl), some (.own (.lst (acc ++ (numsA a rows).map lstI))), some (.val (.int ((a + (rows.map List.length).sum : Nat) : Int))), x'] S := by
  induction rows with
  | nil => exact fun a acc x _ _ _ => ⟨x, by simp [numsA]⟩
  | cons r rs ih =>
    intro a acc x h hr ha
    have e0 : ((a + r.length : Nat) : Int) = (a : Int) + (r.length : Int) := by omega
    have hs : a + (r.length + (rs.map List.length).sum) ≤ 1000000 := by simpa using ha
    obtain ⟨x', e⟩ := ih (a + r.length) (acc ++ [lstI ((List.range r.length).map fun (i : Nat) => (a : Int) + (i : Int))]) (some (.val (rowD r))) (by simp at h ⊢; omega) (fun q hq => hr q (by simp [hq])) (by omega)
    refine ⟨x', ?_⟩
    have hrl := hr r (by simp)
    have g1 : rgOk (a : Int) ((a : Int) + (r.length : Int)) = true := rgOk_of (by omega) (by omega) (by omega)
    have g2 : acc.length < 16777216 := by simp at h; omega
    have g3 : ((a : Int) + (r.length : Int) - (a : Int)).toNat = r.length := by omega
    have st := numbers_step pl acc a r S g2 g1
    rw [g3] at st
    rw [List.map_cons, forL_nx (Γ1 := [some (.val pl), some (.own (.lst acc)), some (.val (.int a)), some (.val (rowD r))]) (by simp [t1_numbers_of]) st]
    rw [e0] at e
    rw [rng_rg]
    simp only [lstI] at e
    rw [e]
    simp [numsA, lstI, Nat.add_assoc]
theorem numbers_of {L : Int} {ow : List Int} {rows : List (List Mv)} (S : Store) (P : PlOk L ow rows) : F_numbers_of [plD L ow rows] S = .ok (.lst ((nums rows).map lstI)) S := by
  have h1 := P.n24
  have h2 := P.tot
  obtain ⟨x, e⟩ := numbers_loop (plD L ow rows) S rows 0 [] none (by simp; omega) (fun r hr => by have := (P.row r hr).2; omega) (by omega)
  simp only [plD] at e ⊢
  simp only [Int.natCast_zero] at e
  simp [F_numbers_of, fnOf, g_numbers_of, e, nums]
end K76
set_option Elab.async false
set_option linter.all false
set_option maxRecDepth 100000
set_option maxHeartbeats 4000000
namespace K76
open PySem L2 DL
/-! ### machines -/
structure MOk (ow : List Int) (rows : List (List Mv)) (side : Int) (most : Nat) (tk : List (List (Option Int))) (nx : List (List Int)) : Prop where
  n1 : 1 ≤ tk.length
  nm : tk.length ≤ most
  len : nx.length = tk.length
  tl : ∀ t ∈ tk, t.length = ow.length
  tv : ∀ t ∈ tk, ∀ (i : Nat) (o : Int) (v : Option Int) (r : List Mv), ow[i]? = some o → t[i]? = some v → rows[i]? = some r → (o ≠ side → v = none) ∧ (o = side → ∃ k, v = some k ∧ 0 ≤ k ∧ k < r.length)
  nl : ∀ n ∈ nx, n.length = (mvs rows).length
  nv : ∀ n ∈ nx, ∀ k ∈ n, 0 ≤ k ∧ k < tk.length
theorem get_atI {α : Type} {l : List α} {i : Nat} {x : α} (h : l[i]? = some x) : L2.atI l (i : Int) = some x := by
  have hl := (List.getElem?_eq_some_iff.mp h).1
  rw [atI_nat hl]
  rw [List.getElem?_eq_getElem hl] at h
  exact h
theorem atI_map {α β : Type} {f : α → β} {l : List α} {i : Nat} {x : α} (h : l[i]? = some x) : L2.atI (l.map f) (i : Int) = some (f x) := get_atI (by rw [List.getElem?_map, h]; rfl)
theorem is_taken {L : Int} {ow : List Int} {rows : List (List Mv)} {side : Int} {i : Nat} {o : Int} {r : List Mv} {v : Option Int} (S : Store) (h1 : ow[i]? = some o) (h2 : rows[i]? = some r) (hv : (o ≠ side → v = none) ∧ (o = side → ∃ k, v = some k ∧ 0 ≤ k ∧ k < r.length)) :
    F_is_taken [plD L ow rows, .int side, .int i, opD v] S = .ok (.bl true) S := by
  have a1 := atI_map (f := D.int) h1
  have a2 := atI_map (f := rowD) h2
  by_cases ho : o = side
  · obtain ⟨k, rfl, k0, k1⟩ := hv.2 ho
    simp [F_is_taken, fnOf, g_is_taken, plD, a1, a2, ho, opD, is_count_int, k0, k1, rowD]
  · obtain rfl := hv.1 ho
    simp [F_is_taken, fnOf, g_is_taken, plD, a1, a2, ho, opD]
theorem enumF_map {α : Type} (f : α → D) (l : List α) : ∀ n, enumF n (l.map f) = (l.zipIdx n).map fun p => .tup [.int (p.2 : Int), f p.1] := by
  induction l with
  | nil => intro n; rfl
  | cons a l ih => intro n; simp [enumF, ih]
theorem zipIdx_mem {α : Type} {l : List α} {p : α × Nat} (h : p ∈ l.zipIdx) : l[p.2]? = some p.1 := by
  obtain ⟨x, i⟩ := p
  have := List.mem_zipIdx_iff_getElem?.mp h
  simpa using this
theorem are_taken {L : Int} {ow : List Int} {rows : List (List Mv)} {side : Int} {t : List (Option Int)} (S : Store) (hl : ow.length = rows.length) (hn : rows.length ≤ 24) (ht : t.length = ow.length)
    (tv : ∀ (i : Nat) (o : Int) (v : Option Int) (r : List Mv), ow[i]? = some o → t[i]? = some v → rows[i]? = some r → (o ≠ side → v = none) ∧ (o = side → ∃ k, v = some k ∧ 0 ≤ k ∧ k < r.length)) :
    F_are_taken [plD L ow rows, .int side, tkD t] S = .ok (.bl true) S := by
  have l1 : lcL lt1_are_taken bYes lf1_are_taken [some (.val (plD L ow rows)), some (.val (.int side)), some (.val (.tup (t.map opD))), none, none] ((t.zipIdx).map fun p => .tup [.int (p.2 : Int), opD p.1]) S = .ok ((t.zipIdx).map fun _ => .bl true) S :=
    lcL_all (fun p : Option Int × Nat => .tup [.int (p.2 : Int), opD p.1]) (fun _ => .bl true) t.zipIdx fun p hp => by
      have h1 := zipIdx_mem hp
      have hi := (List.getElem?_eq_some_iff.mp h1).1
      have h2 : ow[p.2]? = some ow[p.2] := List.getElem?_eq_getElem (by omega)
      have h3 : rows[p.2]? = some rows[p.2] := List.getElem?_eq_getElem (by omega)
      have e := is_taken (L := L) S h2 h3 (tv p.2 _ _ _ h2 h1 h3)
      simp [lt1_are_taken, lf1_are_taken, e]
  have b1 := blsOf_map (fun _ : Option Int × Nat => true) t.zipIdx
  have z1 : t.length ≤ 16777216 := by omega
  have z2 : ow.length ≤ 16777216 := by omega
  simp only [plD] at l1 ⊢
  simp [F_are_taken, fnOf, g_are_taken, tkD, Kd.isa, enumD_eq, enumF_map, l1, b1, z2, ht]
theorem are_next {m : Nat} {n : List Int} {k : Int} (S : Store) (hn : n.length = m) (hm : m ≤ 1000000) (hv : ∀ x ∈ n, 0 ≤ x ∧ x < k) : F_are_next [.int m, .int k, nxD n] S = .ok (.bl true) S := by
  have l1 : lcL lt1_are_next bYes lf1_are_next [some (.val (.int m)), some (.val (.int k)), some (.val (.tup (n.map .int))), none] (n.map .int) S = .ok (n.map fun _ => .bl true) S :=
    lcL_all .int (fun _ => .bl true) n fun x hx => by
      obtain ⟨a, b⟩ := hv x hx
      simp [lt1_are_next, lf1_are_next, is_count_int, a, b]
  have b1 := blsOf_map (fun _ : Int => true) n
  have z1 : n.length ≤ 16777216 := by omega
  subst hn
  simp [F_are_next, fnOf, g_are_next, nxD, Kd.isa, l1, b1, z1]
theorem rows_sum (rows : List (List Mv)) : (rows.map fun r => (r.length : Int)).sum = ((mvs rows).length : Int) := by
  have e : ∀ l : List (List Mv), (l.map fun r => (r.length : Int)).sum = ((l.map List.length).sum : Nat) := fun l => by
    induction l with
    | nil => rfl
    | cons a l ih => simp [ih]
  rw [e, mvs, mvsA_length]
theorem mvs_le {L : Int} {ow : List Int} {rows : List (List Mv)} (P : PlOk L ow rows) : (mvs rows).length ≤ 200 := by
  rw [mvs, mvsA_length]
  exact P.tot
theorem is_machine_of {L : Int} {ow : List Int} {rows : List (List Mv)} {w : PySem.Str} {side : Int} {most : Nat} {tk : List (List (Option Int))} {nx : List (List Int)} (S : Store) (P : PlOk L ow rows) (M : MOk ow rows side most tk nx) (hm : most ≤ 1000) :
    F_is_machine_of [plD L ow rows, .str w, .int side, .int most, mcD w tk nx] S = .ok (.bl true) S := by
  have l1 : ∀ Γ1 Γ3 Γ4 Γ5 Γ6 Γ7 Γ8 : Option Sl, lcL lt1_is_machine_of bYes lf1_is_machine_of [some (.val (plD L ow rows)), Γ1, some (.val (.int side)), Γ3, Γ4, Γ5, Γ6, Γ7, Γ8, none] (tk.map tkD) S = .ok (tk.map fun _ => .bl true) S := fun _ _ _ _ _ _ _ =>
    lcL_all tkD (fun _ => .bl true) tk fun t ht => by
      have e := are_taken (L := L) S P.len P.n24 (M.tl t ht) (M.tv t ht)
      simp [lt1_is_machine_of, lf1_is_machine_of, e]
  have l2 : ∀ Γ0 Γ1 Γ2 Γ3 Γ4 Γ5 Γ6 Γ7 Γ9 : Option Sl, lcL lt2_is_machine_of bYes lf2_is_machine_of [Γ0, Γ1, Γ2, Γ3, Γ4, Γ5, Γ6, Γ7, none, Γ9] (rows.map rowD) S = .ok (rows.map fun r => .int (r.length : Int)) S := fun _ _ _ _ _ _ _ _ _ =>
    lcL_all rowD (fun r => .int (r.length : Int)) rows fun r hr => by
      simp [lt2_is_machine_of, lf2_is_machine_of, rowD]
  have hmv := mvs_le P
  have l3 : ∀ Γ0 Γ1 Γ2 Γ3 Γ4 Γ6 Γ8 : Option Sl, lcL lt3_is_machine_of bYes lf3_is_machine_of [Γ0, Γ1, Γ2, Γ3, Γ4, some (.val (.tup (tk.map tkD))), Γ6, some (.val (.int ((mvs rows).length : Int))), Γ8, none] (nx.map nxD) S = .ok (nx.map fun _ => .bl true) S := fun _ _ _ _ _ _ _ =>
    lcL_all nxD (fun _ => .bl true) nx fun n hn => by
      have e := are_next (k := tk.length) S (M.nl n hn) (by omega) (M.nv n hn)
      simp [lt3_is_machine_of, lf3_is_machine_of, e]
  have b1 := blsOf_map (fun _ : List (Option Int) => true) tk
  have b2 := intsOf_mapI (fun r : List Mv => (r.length : Int)) rows
  have b3 := blsOf_map (fun _ : List Int => true) nx
  have z1 : (1 : Int) ≤ (tk.length : Int) := by have := M.n1; omega
  have z2 : (tk.length : Int) ≤ (most : Int) := by have := M.nm; omega
  have z3 : tk.length ≤ 16777216 := by have := M.nm; omega
  have z4 : rows.length ≤ 16777216 := by have := P.n24; omega
  have z5 : nx.length = tk.length := M.len
  have z6 := rows_sum rows
  have e0 : (mcD w tk nx) = .tup [.str w, .tup (tk.map tkD), .tup (nx.map nxD)] := rfl
  have p0 : plD L ow rows = .tup [.str "plant", .int L, .tup (ow.map .int), .tup (rows.map rowD)] := rfl
  rw [p0] at l1
  rw [e0, p0]
  simp [F_is_machine_of, fnOf, g_is_machine_of, Kd.isa, z1, z2, z3, z4, z5, l1, l2, l3, b1, b2, b3, z6]
theorem is_hand_of {L : Int} {ow : List Int} {rows : List (List Mv)} {tk : List (List (Option Int))} {nx : List (List Int)} (S : Store) (P : PlOk L ow rows) (M : MOk ow rows 0 60 tk nx) : F_is_hand_of [plD L ow rows, mcD "hand" tk nx] S = .ok (.bl true) S := by
  have e := is_machine_of (w := "hand") S P M (by omega)
  have e : F_is_machine_of [plD L ow rows, .str "hand", .int 0, .int 60, mcD "hand" tk nx] S = .ok (.bl true) S := e
  simp [F_is_hand_of, fnOf, g_is_hand_of, e]
theorem is_weather_of {L : Int} {ow : List Int} {rows : List (List Mv)} {tk : List (List (Option Int))} {nx : List (List Int)} (S : Store) (P : PlOk L ow rows) (M : MOk ow rows 1 400 tk nx) : F_is_weather_of [plD L ow rows, mcD "weather" tk nx] S = .ok (.bl true) S := by
  have e := is_machine_of (w := "weather") S P M (by omega)
  have e : F_is_machine_of [plD L ow rows, .str "weather", .int 1, .int 400, mcD "weather" tk nx] S = .ok (.bl true) S := e
  simp [F_is_weather_of, fnOf, g_is_weather_of, e]
/-- a play's three -/
structure Tri (L : Int) (ow : List Int) (rows : List (List Mv)) (ht : List (List (Option Int))) (hn : List (List Int)) (wt : List (List (Option Int))) (wn : List (List Int)) : Prop where
  P : PlOk L ow rows
  H : MOk ow rows 0 60 ht hn
  W : MOk ow rows 1 400 wt wn
section
variable {L : Int} {ow : List Int} {rows : List (List Mv)} {ht : List (List (Option Int))} {hn : List (List Int)} {wt : List (List (Option Int))} {wn : List (List Int)}
theorem want_machines (S : Store) (T : Tri L ow rows ht hn wt wn) : F_want_machines [plD L ow rows, mcD "hand" ht hn, mcD "weather" wt wn] S = .ok .non S := by
  have e1 := want_plant S T.P
  have e2 : F_want_hand [plD L ow rows, mcD "hand" ht hn] S = .ok (mcD "hand" ht hn) S := by simp [F_want_hand, fnOf, g_want_hand, is_hand_of S T.P T.H]
  have e3 : F_want_weather [plD L ow rows, mcD "weather" wt wn] S = .ok (mcD "weather" wt wn) S := by simp [F_want_weather, fnOf, g_want_weather, is_weather_of S T.P T.W]
  simp [F_want_machines, fnOf, g_want_machines, e1, e2, e3]
end
end K76
set_option Elab.async false
set_option linter.all false
set_option maxRecDepth 100000
set_option maxHeartbeats 4000000
namespace K76
open PySem L2 DL
/-! ### the play -/
def gI {α : Type} [Inhabited α] (l : List α) (i : Int) : α := l.getD i.toNat default
theorem gI_get {α : Type} [Inhabited α] {l : List α} {i : Int} (h0 : 0 ≤ i) (h : i.toNat < l.length) : l[i.toNat]? = some (gI l i) := by
  unfold gI
  rw [List.getD_eq_getElem?_getD, List.getElem?_eq_getElem h]
  rfl
theorem gI_mem {α : Type} [Inhabited α] {l : List α} {i : Int} (h0 : 0 ≤ i) (h : i < l.length) : gI l i ∈ l := List.mem_of_getElem? (gI_get h0 (by omega))
theorem atI_gI {α : Type} [Inhabited α] {f : α → D} {l : List α} {i : Int} (h0 : 0 ≤ i) (h : i < l.length) : L2.atI (l.map f) i = some (f (gI l i)) := by
  have e := gI_get (l := l) h0 (by omega)
  have z := atI_map (f := f) e
  rw [show ((i.toNat : Nat) : Int) = i by omega] at z
  exact z
abbrev T3 := Int × Int × Int
section
variable (ow : List Int) (rows : List (List Mv)) (ht : List (List (Option Int))) (hn : List (List Int)) (wt : List (List (Option Int))) (wn : List (List Int))
def takeV (t : T3) : Int := (if gI ow t.1 = 0 then gI (gI ht t.2.1) t.1 else gI (gI wt t.2.2) t.1).getD 0
def num (t : T3) : Int := gI (gI (nums rows) t.1) (takeV ow ht wt t)
def nxt (t : T3) : T3 := ((gI (mvs rows) (num ow rows ht wt t)).2.2, gI (gI hn t.2.1) (num ow rows ht wt t), gI (gI wn t.2.2) (num ow rows ht wt t))
def Val (t : T3) : Prop := (0 ≤ t.1 ∧ t.1 < rows.length) ∧ (0 ≤ t.2.1 ∧ t.2.1 < ht.length) ∧ (0 ≤ t.2.2 ∧ t.2.2 < wt.length)
end
theorem numsA_get : ∀ (rows : List (List Mv)) (a : Int) (n : Int) (p k : Nat) (r : List Mv) (m : Mv), rows[p]? = some r → r[k]? = some m →
    ∃ (l : List Int) (j : Nat), (numsA a rows)[p]? = some l ∧ l.length = r.length ∧ l[k]? = some (a + (j : Int)) ∧ (mvsA n rows)[j]? = some (n + (p : Int), m.1, m.2)
  | [], _, _, _, _, _, _, h, _ => by simp at h
  | q :: rs, a, n, 0, k, r, m, h, hk => by
    simp at h
    subst h
    have hl := (List.getElem?_eq_some_iff.mp hk).1
    refine ⟨_, k, rfl, by simp, by simp [hl], ?_⟩
    unfold mvsA
    rw [List.getElem?_append_left (by simpa using hl), List.getElem?_map, hk]
    simp
  | q :: rs, a, n, p + 1, k, r, m, h, hk => by
    obtain ⟨l, j, h1, h2, h3, h4⟩ := numsA_get rs (a + (q.length : Int)) (n + 1) p k r m (by simpa using h) hk
    refine ⟨l, q.length + j, by simpa [numsA] using h1, h2, ?_, ?_⟩
    · rw [h3]; congr 1; omega
    · unfold mvsA
      rw [List.getElem?_append_right (by simp), List.length_map, Nat.add_sub_cancel_left, h4]
      congr 2
      omega
section
variable {L : Int} {ow : List Int} {rows : List (List Mv)} {ht : List (List (Option Int))} {hn : List (List Int)} {wt : List (List (Option Int))} {wn : List (List Int)}
theorem getI_of {α : Type} [Inhabited α] {l : List α} {i : Nat} {x : α} (h : l[i]? = some x) : gI l (i : Int) = x := by
  unfold gI
  rw [List.getD_eq_getElem?_getD, Int.toNat_natCast, h]
  rfl
/-- what the machine takes at a valid state -/
theorem take_ok (T : Tri L ow rows ht hn wt wn) {t : T3} (v : Val rows ht wt t) : 0 ≤ takeV ow ht wt t ∧ takeV ow ht wt t < (gI rows t.1).length ∧
    (gI ow t.1 = 0 → gI (gI ht t.2.1) t.1 = some (takeV ow ht wt t)) ∧ (gI ow t.1 ≠ 0 → gI ow t.1 = 1 ∧ gI (gI wt t.2.2) t.1 = some (takeV ow ht wt t)) := by
  obtain ⟨⟨p0, p1⟩, ⟨m0, m1⟩, ⟨o0, o1⟩⟩ := v
  have hlen := T.P.len
  have ho := gI_get (l := ow) p0 (by omega)
  have hr := gI_get (l := rows) p0 (by omega)
  have hT := gI_mem (l := ht) m0 m1
  have wT := gI_mem (l := wt) o0 o1
  have th := gI_get (l := gI ht t.2.1) p0 (by rw [T.H.tl _ hT]; omega)
  have tw := gI_get (l := gI wt t.2.2) p0 (by rw [T.W.tl _ wT]; omega)
  have own := T.P.own _ (List.mem_of_getElem? ho)
  have vh := T.H.tv _ hT _ _ _ _ ho th hr
  have vw := T.W.tv _ wT _ _ _ _ ho tw hr
  by_cases h : gI ow t.1 = 0
  · obtain ⟨k, e, k0, k1⟩ := vh.2 h
    have et : takeV ow ht wt t = k := by unfold takeV; rw [if_pos h, e]; rfl
    rw [et]
    exact ⟨k0, k1, fun _ => e, fun z => absurd h z⟩
  · have h1 : gI ow t.1 = 1 := by omega
    obtain ⟨k, e, k0, k1⟩ := vw.2 h1
    have et : takeV ow ht wt t = k := by unfold takeV; rw [if_neg h, e]; rfl
    rw [et]
    exact ⟨k0, k1, fun z => absurd z h, fun _ => ⟨h1, e⟩⟩
theorem num_ok (T : Tri L ow rows ht hn wt wn) {t : T3} (v : Val rows ht wt t) : 0 ≤ num ow rows ht wt t ∧ num ow rows ht wt t < (mvs rows).length ∧ (gI (mvs rows) (num ow rows ht wt t)).1 = t.1 ∧
    (gI (gI (nums rows) t.1) (takeV ow ht wt t) = num ow rows ht wt t) ∧ (gI (nums rows) t.1).length = (gI rows t.1).length ∧ 0 ≤ (gI (mvs rows) (num ow rows ht wt t)).2.2 ∧ (gI (mvs rows) (num ow rows ht wt t)).2.2 < rows.length ∧
    0 ≤ (gI (mvs rows) (num ow rows ht wt t)).2.1 ∧ (gI (mvs rows) (num ow rows ht wt t)).2.1 < L := by
  obtain ⟨k0, k1, _, _⟩ := take_ok T v
  have p0 := v.1.1
  have p1 := v.1.2
  have hr := gI_get (l := rows) p0 (by omega)
  have hk := gI_get (l := gI rows t.1) k0 (by omega)
  obtain ⟨l, j, h1, h2, h3, h4⟩ := numsA_get rows 0 0 t.1.toNat (takeV ow ht wt t).toNat _ _ hr hk
  have el : gI (nums rows) t.1 = l := by
    have := getI_of h1
    rwa [show ((t.1.toNat : Nat) : Int) = t.1 by omega] at this
  have en : num ow rows ht wt t = (j : Int) := by
    unfold num
    rw [el]
    have := getI_of h3
    rw [show (((takeV ow ht wt t).toNat : Nat) : Int) = takeV ow ht wt t by omega] at this
    rw [this]
    omega
  have em : gI (mvs rows) (num ow rows ht wt t) = (0 + (t.1.toNat : Int), (gI (gI rows t.1) (takeV ow ht wt t)).1, (gI (gI rows t.1) (takeV ow ht wt t)).2) := by
    rw [en]
    exact getI_of h4
  have hj := (List.getElem?_eq_some_iff.mp h4).1
  have mv := T.P.mv _ (List.mem_of_getElem? hr) _ (List.mem_of_getElem? hk)
  refine ⟨by omega, by rw [en]; unfold mvs; omega, by rw [em]; show 0 + (t.1.toNat : Int) = t.1; omega, rfl, by rw [el, h2], ?_, ?_, ?_, ?_⟩
  all_goals rw [em]
  · exact mv.2.2.1
  · exact mv.2.2.2
  · exact mv.1
  · exact mv.2.1
theorem nxt_ok (T : Tri L ow rows ht hn wt wn) {t : T3} (v : Val rows ht wt t) : Val rows ht wt (nxt ow rows ht hn wt wn t) := by
  obtain ⟨n0, n1, _, _, _, q0, q1, _⟩ := num_ok T v
  have m0 := v.2.1.1
  have m1 := v.2.1.2
  have o0 := v.2.2.1
  have o1 := v.2.2.2
  have eh := T.H.len
  have ew := T.W.len
  have a := gI_mem (l := hn) m0 (by omega)
  have b := gI_mem (l := wn) o0 (by omega)
  have a2 := gI_mem (l := gI hn t.2.1) n0 (by rw [T.H.nl _ a]; exact n1)
  have b2 := gI_mem (l := gI wn t.2.2) n0 (by rw [T.W.nl _ b]; exact n1)
  exact ⟨⟨q0, q1⟩, T.H.nv _ a _ a2, T.W.nv _ b _ b2⟩
end
end K76
set_option Elab.async false
set_option linter.all false
set_option maxRecDepth 100000
set_option maxHeartbeats 4000000
namespace K76
open PySem L2 DL
/-! ### dicts of triples -/
abbrev keyT (t : T3) : List Key := [.inl t.1, .inl t.2.1, .inl t.2.2]
theorem keyT_inj {t u : T3} (h : keyT t = keyT u) : t = u := by
  obtain ⟨a, b, c⟩ := t
  obtain ⟨d, e, f⟩ := u
  simp [keyT] at h
  obtain ⟨rfl, rfl, rfl⟩ := h
  rfl
def metK (f : Nat → T3) (k : Nat) : List (List Key × D) := (List.range k).map fun i => (keyT (f i), D.int (i : Int))
theorem metK_length (f : Nat → T3) (k : Nat) : (metK f k).length = k := by simp [metK]
theorem metK_succ (f : Nat → T3) (k : Nat) : metK f (k + 1) = metK f k ++ [(keyT (f k), .int (k : Int))] := by
  unfold metK
  rw [List.range_succ, List.map_append]
  rfl
theorem valD_none {f : Nat → T3} {t : T3} (k : Nat) (h : ∀ i, i < k → f i ≠ t) : valD (metK f k) (keyT t) = none := by
  unfold valD
  rw [Option.map_eq_none_iff, List.find?_eq_none]
  intro x hx
  unfold metK at hx
  obtain ⟨i, hi, rfl⟩ := List.mem_map.mp hx
  simp only [decide_eq_true_eq]
  exact fun e => h i (List.mem_range.mp hi) (keyT_inj e)
theorem valD_some {f : Nat → T3} {t : T3} (b : Nat) : ∀ k, b < k → f b = t → (∀ i, i < b → f i ≠ t) → valD (metK f k) (keyT t) = some (.int (b : Int))
  | 0, h, _, _ => by omega
  | k + 1, h, e, n => by
    rw [metK_succ]
    unfold valD
    by_cases hb : b < k
    · have ih := valD_some b k hb e n
      unfold valD at ih
      rw [List.find?_append]
      cases h2 : List.find? (fun kv => decide (kv.1 = keyT t)) (metK f k) with
      | none => rw [h2] at ih; cases ih
      | some x => rw [h2] at ih; exact ih
    · obtain rfl : b = k := by omega
      have ih := valD_none b n
      unfold valD at ih
      rw [Option.map_eq_none_iff] at ih
      rw [List.find?_append, ih]
      simp [e]
theorem putD_new {f : Nat → T3} (k : Nat) (h : ∀ i, i < k → f i ≠ f k) : putD (metK f k) (keyT (f k)) (.int (k : Int)) = metK f (k + 1) := by
  unfold putD
  have e : ((metK f k).any fun kv => decide (kv.1 = keyT (f k))) = false := by
    rw [List.any_eq_false]
    intro x hx
    unfold metK at hx
    obtain ⟨i, hi, rfl⟩ := List.mem_map.mp hx
    simp only [decide_eq_true_eq]
    exact fun e => h i (List.mem_range.mp hi) (keyT_inj e)
  rw [e, metK_succ]
  rfl
@[simp] theorem dAt_t (kvs : List (List Key × D)) (a b c : Int) : dAt (.dT kvs) (.tup [.int a, .int b, .int c]) = some (valD kvs (keyT (a, b, c))) := rfl
theorem dPut_t (kvs : List (List Key × D)) (a b c : Int) (v : D) (h : kvs.length < 16777216) : dPut (.dT kvs) (.tup [.int a, .int b, .int c]) v = some (.dT (putD kvs (keyT (a, b, c)) v)) := by
  show (if kvs.length < sizeLine then (keysOf [.int a, .int b, .int c]).map (fun k => SO.dT (putD kvs k v)) else none) = _
  rw [if_pos (by rw [sz_eq]; exact h)]
  rfl
theorem want_at_most_ok (w : PySem.Str) (l n : Int) (S : Store) (h : n ≤ l) : F_want_at_most [.str w, .int l, .int n] S = .ok .non S := by
  have h' : ¬ l < n := by omega
  simp [F_want_at_most, fnOf, g_want_at_most, h']
theorem want_at_most_no (w : PySem.Str) (l n : Int) (S : Store) (h : l < n) : F_want_at_most [.str w, .int l, .int n] S = .ex "TooMany" [("limit", .int l), ("what", .str w)] S := by
  simp [F_want_at_most, fnOf, g_want_at_most, h]
section
variable {L : Int} {ow : List Int} {rows : List (List Mv)} {ht : List (List (Option Int))} {hn : List (List Int)} {wt : List (List (Option Int))} {wn : List (List Int)}
theorem numbers_along {w : PySem.Str} {tk : List (List (Option Int))} {nx : List (List Int)} {side : Int} {p m k : Int} (S : Store) (P : PlOk L ow rows) (p0 : 0 ≤ p) (p1 : p < rows.length) (m0 : 0 ≤ m) (m1 : m < tk.length) (hs : gI ow p = side)
    (ht : (gI tk m).length = ow.length) (hk : gI (gI tk m) p = some k) (k0 : 0 ≤ k) (k1 : k < (gI (nums rows) p).length) :
    F_numbers_along [plD L ow rows, .lst ((nums rows).map lstI), .int side, mcD w tk nx, .int p, .int m] S = .ok (.lst [.int (gI (gI (nums rows) p) k)]) S := by
  have hl := P.len
  have a1 := atI_gI (f := D.int) (l := ow) p0 (by omega)
  have a2 := atI_gI (f := lstI) (l := nums rows) p0 (by rw [nums, numsA_length]; exact p1)
  have a3 := atI_gI (f := tkD) (l := tk) m0 m1
  have a4 := atI_gI (f := opD) (l := gI tk m) p0 (by omega)
  have a5 := atI_gI (f := D.int) (l := gI (nums rows) p) k0 k1
  rw [hk] at a4
  rw [hs] at a1
  have a4' : L2.atI ((gI tk m).map opD) p = some (.int k) := a4
  have a3' : L2.atI (tk.map tkD) m = some (.tup ((gI tk m).map opD)) := a3
  have a2' : L2.atI ((nums rows).map lstI) p = some (.lst ((gI (nums rows) p).map .int)) := a2
  simp [F_numbers_along, fnOf, g_numbers_along, plD, mcD, a1, a2', a3', a4', a5]
theorem move_at (S : Store) (T : Tri L ow rows ht hn wt wn) {t : T3} (v : Val rows ht wt t) :
    F_move_at [plD L ow rows, .lst ((nums rows).map lstI), mcD "hand" ht hn, mcD "weather" wt wn, tI3 t] S = .ok (.int (num ow rows ht wt t)) S := by
  obtain ⟨k0, k1, kh, kw⟩ := take_ok T v
  obtain ⟨_, _, _, en, el, _⟩ := num_ok T v
  obtain ⟨⟨p0, p1⟩, ⟨m0, m1⟩, ⟨o0, o1⟩⟩ := v
  have hl := T.P.len
  have a1 := atI_gI (f := D.int) (l := ow) p0 (by omega)
  by_cases h : gI ow t.1 = 0
  · have e := numbers_along (w := "hand") (nx := hn) (side := 0) S T.P p0 p1 m0 m1 h (T.H.tl _ (gI_mem m0 m1)) (kh h) k0 (by rw [el]; exact k1)
    rw [h] at a1
    rw [en] at e
    have ep : plD L ow rows = .tup [.str "plant", .int L, .tup (ow.map .int), .tup (rows.map rowD)] := rfl
    rw [ep] at e ⊢
    simp [F_move_at, fnOf, g_move_at, tI3, a1, e]
  · obtain ⟨h1, hw⟩ := kw h
    have e := numbers_along (w := "weather") (nx := wn) (side := 1) S T.P p0 p1 o0 o1 h1 (T.W.tl _ (gI_mem o0 o1)) hw k0 (by rw [el]; exact k1)
    rw [h1] at a1
    rw [en] at e
    have ep : plD L ow rows = .tup [.str "plant", .int L, .tup (ow.map .int), .tup (rows.map rowD)] := rfl
    rw [ep] at e ⊢
    simp [F_move_at, fnOf, g_move_at, tI3, a1, e]
end
end K76
set_option Elab.async false
set_option linter.all false
set_option maxRecDepth 100000
set_option maxHeartbeats 4000000
namespace K76
open PySem L2 DL
/-! ### the course -/
@[simp] theorem ix_mc0 (S : Store) (w : PySem.Str) (tk : List (List (Option Int))) (nx : List (List Int)) : oIx S (mcD w tk nx) (.int 0) = some (.str w) := by simp [mcD]
@[simp] theorem ix_mc1 (S : Store) (w : PySem.Str) (tk : List (List (Option Int))) (nx : List (List Int)) : oIx S (mcD w tk nx) (.int 1) = some (.tup (tk.map tkD)) := by simp [mcD]
@[simp] theorem ix_mc2 (S : Store) (w : PySem.Str) (tk : List (List (Option Int))) (nx : List (List Int)) : oIx S (mcD w tk nx) (.int 2) = some (.tup (nx.map nxD)) := by simp [mcD]
@[simp] theorem ix_t0 (S : Store) (t : Int × Int × Int) : oIx S (tI3 t) (.int 0) = some (.int t.1) := by simp [tI3]
@[simp] theorem ix_t1 (S : Store) (t : Int × Int × Int) : oIx S (tI3 t) (.int 1) = some (.int t.2.1) := by simp [tI3]
@[simp] theorem ix_t2 (S : Store) (t : Int × Int × Int) : oIx S (tI3 t) (.int 2) = some (.int t.2.2) := by simp [tI3]
@[simp] theorem ix_nx (S : Store) (l : List Int) (i : Int) : oIx S (nxD l) (.int i) = L2.atI (l.map .int) i := rfl
@[simp] theorem ix_tk (S : Store) (l : List (Option Int)) (i : Int) : oIx S (tkD l) (.int i) = L2.atI (l.map opD) i := rfl
@[simp] theorem ix_row (S : Store) (l : List Mv) (i : Int) : oIx S (rowD l) (.int i) = L2.atI (l.map tI2) i := rfl
@[simp] theorem ix_lstI (S : Store) (l : List Int) (i : Int) : oIx S (lstI l) (.int i) = L2.atI (l.map .int) i := rfl
@[simp] theorem ix_pl1 (S : Store) (L : Int) (ow : List Int) (rows : List (List Mv)) : oIx S (plD L ow rows) (.int 1) = some (.int L) := by simp [plD]
@[simp] theorem ix_pl2 (S : Store) (L : Int) (ow : List Int) (rows : List (List Mv)) : oIx S (plD L ow rows) (.int 2) = some (.tup (ow.map .int)) := by simp [plD]
@[simp] theorem ix_pl3 (S : Store) (L : Int) (ow : List Int) (rows : List (List Mv)) : oIx S (plD L ow rows) (.int 3) = some (.tup (rows.map rowD)) := by simp [plD]
def orb (f : T3 → T3) : Nat → T3
  | 0 => (0, 0, 0)
  | n + 1 => f (orb f n)
section
variable {L : Int} {ow : List Int} {rows : List (List Mv)} {ht : List (List (Option Int))} {hn : List (List Int)} {wt : List (List (Option Int))} {wn : List (List Int)}
def Orb (ow : List Int) (rows : List (List Mv)) (ht : List (List (Option Int))) (hn : List (List Int)) (wt : List (List (Option Int))) (wn : List (List Int)) : Nat → T3 := orb (nxt ow rows ht hn wt wn)
theorem Orb_zero : Orb ow rows ht hn wt wn 0 = (0, 0, 0) := rfl
theorem Orb_succ (n : Nat) : Orb ow rows ht hn wt wn (n + 1) = nxt ow rows ht hn wt wn (Orb ow rows ht hn wt wn n) := rfl
theorem orb_val (T : Tri L ow rows ht hn wt wn) : ∀ n, Val rows ht wt (Orb ow rows ht hn wt wn n)
  | 0 => by
    have a := T.P.n1
    have b := T.H.n1
    have c := T.W.n1
    refine ⟨⟨Int.le_refl _, ?_⟩, ⟨Int.le_refl _, ?_⟩, ⟨Int.le_refl _, ?_⟩⟩
    · show (0 : Int) < _; omega
    · show (0 : Int) < _; omega
    · show (0 : Int) < _; omega
  | n + 1 => nxt_ok T (orb_val T n)
def rowK (ow : List Int) (rows : List (List Mv)) (ht : List (List (Option Int))) (hn : List (List Int)) (wt : List (List (Option Int))) (wn : List (List Int)) (k : Nat) : List Int := (List.range k).map fun i => num ow rows ht wt (Orb ow rows ht hn wt wn i)
theorem rowK_length (k : Nat) : (rowK ow rows ht hn wt wn k).length = k := by simp [rowK]
/-- the slots ahead of turn k -/
def stK (L : Int) (ow : List Int) (rows : List (List Mv)) (ht : List (List (Option Int))) (hn : List (List Int)) (wt : List (List (Option Int))) (wn : List (List Int)) (k : Nat) (x : Option Sl) : Gm :=
  [some (.val (plD L ow rows)), some (.val (mcD "hand" ht hn)), some (.val (mcD "weather" wt wn)), some (.val (.lst ((mvs rows).map tI3))), some (.val (.lst ((nums rows).map lstI))), some (.val (tI3 (Orb ow rows ht hn wt wn k))),
    some (.own (.dT (metK (Orb ow rows ht hn wt wn) k))), some (.own (.lst ((rowK ow rows ht hn wt wn k).map .int))), x]
theorem course_step (S : Store) (T : Tri L ow rows ht hn wt wn) (k : Nat) (x : Option Sl) (hk : k < 2400) (new : ∀ i, i < k → Orb ow rows ht hn wt wn i ≠ Orb ow rows ht hn wt wn k) :
    ∃ x', wb1_course_of (stK L ow rows ht hn wt wn k x) S = .nx (stK L ow rows ht hn wt wn (k + 1) x') S := by
  have v := orb_val T k
  have mv := move_at S T v
  obtain ⟨n0, n1, _, _, _, _⟩ := num_ok T v
  obtain ⟨⟨p0, p1⟩, ⟨m0, m1⟩, ⟨o0, o1⟩⟩ := v
  have nx1 := Orb_succ (ow := ow) (rows := rows) (ht := ht) (hn := hn) (wt := wt) (wn := wn) k
  have eh := T.H.len
  have ew := T.W.len
  generalize ht' : Orb ow rows ht hn wt wn k = t at *
  have wm := want_at_most_ok "places" 2400 ((k : Int) + 1) S (by omega)
  have a1 := atI_gI (f := tI3) (l := mvs rows) n0 n1
  have a2 := atI_gI (f := nxD) (l := hn) m0 (by omega)
  have a3 := atI_gI (f := nxD) (l := wn) o0 (by omega)
  have a4 := atI_gI (f := D.int) (l := gI hn t.2.1) n0 (by rw [T.H.nl _ (gI_mem m0 (by omega))]; exact n1)
  have a5 := atI_gI (f := D.int) (l := gI wn t.2.2) n0 (by rw [T.W.nl _ (gI_mem o0 (by omega))]; exact n1)
  have pd : putD (metK (Orb ow rows ht hn wt wn) k) (keyT t) (.int (k : Int)) = metK (Orb ow rows ht hn wt wn) (k + 1) := by
    have := putD_new (f := Orb ow rows ht hn wt wn) k (fun i hi => by rw [ht']; exact new i hi)
    rwa [ht'] at this
  have hl : (metK (Orb ow rows ht hn wt wn) k).length < 16777216 := by rw [metK_length]; omega
  have hr : (rowK ow rows ht hn wt wn k).length < 16777216 := by rw [rowK_length]; omega
  have rk : rowK ow rows ht hn wt wn (k + 1) = rowK ow rows ht hn wt wn k ++ [num ow rows ht wt t] := by
    unfold rowK
    rw [List.range_succ, List.map_append]
    show _ ++ [num ow rows ht wt (Orb ow rows ht hn wt wn k)] = _
    rw [ht']
  have dp := dPut_t (metK (Orb ow rows ht hn wt wn) k) t.1 t.2.1 t.2.2 (.int (k : Int)) hl
  have dp : dPut (.dT (metK (Orb ow rows ht hn wt wn) k)) (tI3 t) (.int (k : Int)) = some (.dT (metK (Orb ow rows ht hn wt wn) (k + 1))) := by
    rw [← pd]; exact dp
  have ml := metK_length (Orb ow rows ht hn wt wn) (k + 1)
  have rl := rowK_length (ow := ow) (rows := rows) (ht := ht) (hn := hn) (wt := wt) (wn := wn) k
  refine ⟨some (.val (.int (num ow rows ht wt t))), ?_⟩
  unfold stK
  rw [ht', nx1]
  have hk2 : k < 16777216 := by omega
  simp [wb1_course_of, rl, dp, ml, wm, mv, a1, a2, a3, a4, a5, rk, hk2]
  simp [tI3, nxt]

theorem course_test (S : Store) (k : Nat) (x : Option Sl) (b : Bool) (h : (valD (metK (Orb ow rows ht hn wt wn) k) (keyT (Orb ow rows ht hn wt wn k))).isSome = !b) : wc1_course_of (stK L ow rows ht hn wt wn k x) S = .ok b S := by
  have e : dAt (.dT (metK (Orb ow rows ht hn wt wn) k)) (tI3 (Orb ow rows ht hn wt wn k)) = some (valD (metK (Orb ow rows ht hn wt wn) k) (keyT (Orb ow rows ht hn wt wn k))) := rfl
  unfold stK
  simp [wc1_course_of, e]
  rw [← Option.not_isSome, h]
  simp
theorem course_loop (S : Store) (T : Tri L ow rows ht hn wt wn) (N b : Nat) (hN : N ≤ 2400) (hb : b < N) (eb : Orb ow rows ht hn wt wn b = Orb ow rows ht hn wt wn N) (eb2 : ∀ i, i < b → Orb ow rows ht hn wt wn i ≠ Orb ow rows ht hn wt wn N)
    (new : ∀ k, k < N → ∀ i, i < k → Orb ow rows ht hn wt wn i ≠ Orb ow rows ht hn wt wn k) : ∀ (j : Nat) (n : Nat) (x : Option Sl), j ≤ N → N - j < n → j ≤ N → ∃ x', whL wc1_course_of wb1_course_of n (stK L ow rows ht hn wt wn j x) S = .nx (stK L ow rows ht hn wt wn N x') S := by
  intro j n x hj
  induction hd : N - j generalizing j n x with
  | zero =>
    intro hn' _
    obtain rfl : j = N := by omega
    obtain ⟨m, rfl⟩ : ∃ m, n = m + 1 := ⟨n - 1, by omega⟩
    refine ⟨x, whL_f (course_test S j x false ?_)⟩
    rw [valD_some b j hb eb eb2]
    rfl
  | succ d ih =>
    intro hn' _
    obtain ⟨m, rfl⟩ : ∃ m, n = m + 1 := ⟨n - 1, by omega⟩
    have hlt : j < N := by omega
    obtain ⟨x1, e1⟩ := course_step S T j x (by omega) (new j hlt)
    obtain ⟨x2, e2⟩ := ih (j + 1) m x1 (by omega) (by omega) (by omega) (by omega)
    refine ⟨x2, ?_⟩
    rw [whL_t (course_test S j x true (by rw [valD_none j (new j hlt)]; rfl)) e1]
    exact e2
/-- the ring: the first repeat is at N, of b -/
structure Ring (f : Nat → T3) (N b : Nat) : Prop where
  lt : b < N
  eq : f b = f N
  new : ∀ k, k < N → ∀ i, i < k → f i ≠ f k
theorem Ring.first {f : Nat → T3} {N b : Nat} (r : Ring f N b) : ∀ i, i < b → f i ≠ f N := fun i hi e => r.new b r.lt i hi (e.trans r.eq.symm)
theorem course_of (S : Store) (T : Tri L ow rows ht hn wt wn) {N b : Nat} (hN : N ≤ 2400) (r : Ring (Orb ow rows ht hn wt wn) N b) :
    F_course_of [plD L ow rows, mcD "hand" ht hn, mcD "weather" wt wn] S = .ok (.tup [lstI ((rowK ow rows ht hn wt wn N).take b), lstI ((rowK ow rows ht hn wt wn N).drop b)]) S := by
  obtain ⟨x', e⟩ := course_loop S T N b hN r.lt r.eq r.first r.new 0 2410 none (Nat.zero_le _) (by omega) (Nat.zero_le _)
  have e1 := moves_of L ow rows S (by have := mvs_le T.P; omega)
  have e2 := numbers_of S T.P
  have e3 : dAt (.dT (metK (Orb ow rows ht hn wt wn) N)) (tI3 (Orb ow rows ht hn wt wn N)) = some (some (.int (b : Int))) := by
    have := valD_some b N r.lt r.eq r.first
    show some (valD (metK (Orb ow rows ht hn wt wn) N) (keyT (Orb ow rows ht hn wt wn N))) = _
    rw [this]
  have e4 := @cutD_to ((rowK ow rows ht hn wt wn N).map .int) b
  have e5 := @cutD_from ((rowK ow rows ht hn wt wn N).map .int) b
  have e0 : stK L ow rows ht hn wt wn 0 none = [some (.val (plD L ow rows)), some (.val (mcD "hand" ht hn)), some (.val (mcD "weather" wt wn)), some (.val (.lst ((mvs rows).map tI3))), some (.val (.lst ((nums rows).map lstI))), some (.val (.tup [.int 0, .int 0, .int 0])), some (.own (.dT [])), some (.own (.lst [])), none] := rfl
  rw [e0] at e
  unfold stK at e
  simp [F_course_of, fnOf, g_course_of, e1, e2, sWhile, e, e3, e4, e5, lstI]
end
end K76
set_option Elab.async false
set_option linter.all false
set_option maxRecDepth 100000
set_option maxHeartbeats 4000000
namespace K76
open PySem L2 DL
def lateI (b s : Nat) (at_ : Int) : Int := if at_ < b then at_ else b + (at_ - b) % s
def sumL (hd lp : List Int) (many : Int) : Int := if many ≤ hd.length then (hd.take many.toNat).sum else hd.sum + (many - hd.length) / lp.length * lp.sum + (lp.take ((many - hd.length) % lp.length).toNat).sum
theorem intsOf_take (l : List Int) (n : Nat) : intsOf ((l.map D.int).take n) = some (l.take n) := by rw [← List.map_take, intsOf_int]
theorem gI_take {l : List Int} {b : Nat} {i : Int} (h0 : 0 ≤ i) (h : i < b) (hb : b ≤ l.length) : gI (l.take b) i = gI l i := by
  unfold gI
  rw [List.getD_eq_getElem?_getD, List.getD_eq_getElem?_getD, List.getElem?_take, if_pos (by omega)]
theorem gI_drop {l : List Int} {b : Nat} {i : Int} (h0 : 0 ≤ i) : gI (l.drop b) i = gI l (b + i) := by
  unfold gI
  rw [List.getD_eq_getElem?_getD, List.getD_eq_getElem?_getD, List.getElem?_drop]
  congr 2
  omega
theorem at_course (S : Store) (row : List Int) (b : Nat) (at_ : Int) (hb : b < row.length) (h0 : 0 ≤ at_) : F_at_course [.tup [lstI (row.take b), lstI (row.drop b)], .int at_] S = .ok (.int (gI row (lateI b (row.length - b) at_))) S := by
  have l1 : (row.take b).length = b := by simp; omega
  have l2 : (row.drop b).length = row.length - b := by simp
  by_cases h : at_ < b
  · have a1 := atI_gI (f := D.int) (l := row.take b) h0 (by omega)
    rw [gI_take h0 h (by omega)] at a1
    unfold lateI
    rw [if_pos h]
    have h' : at_ < ((row.take b).length : Int) := by omega
    simp only [F_at_course, fnOf, g_at_course, lstI]
    generalize row.take b = hd at *
    generalize row.drop b = lp at *
    simp [h', a1]
  · have hm := Int.emod_nonneg (at_ - b) (b := ((row.length - b : Nat) : Int)) (by omega)
    have hm2 := Int.emod_lt_of_pos (at_ - b) (b := ((row.length - b : Nat) : Int)) (by omega)
    have a1 := atI_gI (f := D.int) (l := row.drop b) hm (by omega)
    rw [gI_drop hm] at a1
    unfold lateI
    rw [if_neg h]
    have h' : ¬ at_ < ((row.take b).length : Int) := by omega
    have e1 : ((row.take b).length : Int) = b := by omega
    have e2 : ((row.drop b).length : Int) = ((row.length - b : Nat) : Int) := by omega
    have e3 : 0 < (row.drop b).length := by omega
    rw [← e1, ← e2] at a1
    rw [← e2, ← e1]
    simp only [F_at_course, fnOf, g_at_course, lstI]
    generalize row.take b = hd at *
    generalize row.drop b = lp at *
    simp [h', e3, a1]
theorem cutD_toI {ds : List D} {i : Int} (h : 0 ≤ i) : cutD ds none (some i) = ds.take i.toNat := by
  have := @cutD_to ds i.toNat
  rwa [show ((i.toNat : Nat) : Int) = i by omega] at this
theorem sum_along (S : Store) (hd lp : List Int) (many : Int) (h0 : 0 ≤ many) (hl : 0 < lp.length) (hl2 : lp.length < 1000000) (hs1 : -18446744073709551616 < lp.sum) (hs2 : lp.sum < 18446744073709551616) :
    F_sum_along [.tup [lstI hd, lstI lp], .int many] S = .ok (.int (sumL hd lp many)) S := by
  by_cases h : many ≤ hd.length
  · unfold sumL
    rw [if_pos h]
    have c1 := @cutD_toI (hd.map .int) many h0
    have i1 := intsOf_take hd many.toNat
    simp [F_sum_along, fnOf, g_sum_along, lstI, h, c1, i1]
  · unfold sumL
    rw [if_neg h]
    have d1 : divOk (many - hd.length) lp.length = true := divOk_of (by omega) (by omega)
    have m1 : mulOk ((many - hd.length) / lp.length) lp.sum = true := mulOk_small hs1 hs2
    have hm := Int.emod_nonneg (many - hd.length) (b := (lp.length : Int)) (by omega)
    have c1 := @cutD_toI (lp.map .int) ((many - hd.length) % lp.length) hm
    have i1 := intsOf_take lp ((many - hd.length) % lp.length).toNat
    simp [F_sum_along, fnOf, g_sum_along, lstI, h, d1, m1, c1, i1]
section
variable {L : Int} {ow : List Int} {rows : List (List Mv)} {ht : List (List (Option Int))} {hn : List (List Int)} {wt : List (List (Option Int))} {wn : List (List Int)}
theorem want_many (S : Store) {m : Int} (h0 : 0 ≤ m) (h1 : m ≤ 1000000000000000000000000000000) : F_want_many [.int m] S = .ok .non S := by
  have h : ¬ 1000000000000000000000000000000 < m := by omega
  simp [F_want_many, fnOf, g_want_many, is_count_int, h0, h]
theorem course (S : Store) (T : Tri L ow rows ht hn wt wn) {N b : Nat} (hN : N ≤ 2400) (r : Ring (Orb ow rows ht hn wt wn) N b) :
    F_course [plD L ow rows, mcD "hand" ht hn, mcD "weather" wt wn] S = .ok (.tup [lstI ((rowK ow rows ht hn wt wn N).take b), lstI ((rowK ow rows ht hn wt wn N).drop b)]) S := by
  simp [F_course, fnOf, g_course, want_machines S T, course_of S T hN r]
theorem rowK_get {N : Nat} {i : Int} (h0 : 0 ≤ i) (h : i < N) : gI (rowK ow rows ht hn wt wn N) i = num ow rows ht wt (Orb ow rows ht hn wt wn i.toNat) := by
  unfold gI rowK
  rw [List.getD_eq_getElem?_getD, List.getElem?_map, List.getElem?_range (by omega)]
  rfl
theorem late_ok {b s : Nat} {at_ : Int} (h0 : 0 ≤ at_) (hs : 0 < s) : 0 ≤ lateI b s at_ ∧ lateI b s at_ < b + s := by
  unfold lateI
  split
  · omega
  · have := Int.emod_nonneg (at_ - b) (b := (s : Int)) (by omega)
    have := Int.emod_lt_of_pos (at_ - b) (b := (s : Int)) (by omega)
    omega
/-- the move told at a place of the course -/
theorem move_late (S : Store) (T : Tri L ow rows ht hn wt wn) {N b : Nat} (hN : N ≤ 2400) (r : Ring (Orb ow rows ht hn wt wn) N b) {at_ : Int} (h0 : 0 ≤ at_) :
    ∃ t, t = Orb ow rows ht hn wt wn (lateI b (N - b) at_).toNat ∧ L2.atI ((mvs rows).map tI3) (gI (rowK ow rows ht hn wt wn N) (lateI b (N - b) at_)) = some (tI3 (gI (mvs rows) (num ow rows ht wt t))) ∧ (gI (mvs rows) (num ow rows ht wt t)).1 = t.1 := by
  have hl := r.lt
  obtain ⟨q0, q1⟩ := late_ok (b := b) (s := N - b) h0 (by omega)
  have e := rowK_get (ow := ow) (rows := rows) (ht := ht) (hn := hn) (wt := wt) (wn := wn) (N := N) q0 (by omega)
  obtain ⟨n0, n1, n2, _⟩ := num_ok T (orb_val T (lateI b (N - b) at_).toNat)
  refine ⟨_, rfl, ?_, n2⟩
  rw [e]
  exact atI_gI (f := tI3) (l := mvs rows) n0 n1
theorem place_behind (S : Store) (T : Tri L ow rows ht hn wt wn) {N b : Nat} (hN : N ≤ 2400) (r : Ring (Orb ow rows ht hn wt wn) N b) {m : Int} (h0 : 0 ≤ m) (h1 : m ≤ 1000000000000000000000000000000) :
    F_place_behind [plD L ow rows, mcD "hand" ht hn, mcD "weather" wt wn, .int m] S = .ok (.int (Orb ow rows ht hn wt wn (lateI b (N - b) m).toNat).1) S := by
  obtain ⟨t, et, a1, a2⟩ := move_late S T hN r h0
  have e1 := moves_of L ow rows S (by have := mvs_le T.P; omega)
  have e2 := at_course S (rowK ow rows ht hn wt wn N) b m (by rw [rowK_length]; exact r.lt) h0
  rw [rowK_length] at e2
  subst et
  simp [F_place_behind, fnOf, g_place_behind, want_machines S T, want_many S h0 h1, course_of S T hN r, e1, e2, a1, a2]
theorem letter_at (S : Store) (T : Tri L ow rows ht hn wt wn) {N b : Nat} (hN : N ≤ 2400) (r : Ring (Orb ow rows ht hn wt wn) N b) {m : Int} (h0 : 0 ≤ m) (h1 : m ≤ 1000000000000000000000000000000) :
    F_letter_at [plD L ow rows, mcD "hand" ht hn, mcD "weather" wt wn, .int m] S = .ok (.int (gI (mvs rows) (num ow rows ht wt (Orb ow rows ht hn wt wn (lateI b (N - b) m).toNat))).2.1) S := by
  obtain ⟨t, et, a1, a2⟩ := move_late S T hN r h0
  have e1 := moves_of L ow rows S (by have := mvs_le T.P; omega)
  have e2 := at_course S (rowK ow rows ht hn wt wn N) b m (by rw [rowK_length]; exact r.lt) h0
  rw [rowK_length] at e2
  subst et
  simp [F_letter_at, fnOf, g_letter_at, want_machines S T, want_many S h0 h1, course_of S T hN r, e1, e2, a1]
/-- 1 where the letter is x -/
def ind (rows : List (List Mv)) (x : Int) (l : List Int) : List Int := l.map fun n => if (gI (mvs rows) n).2.1 = x then 1 else 0
theorem row_bd (T : Tri L ow rows ht hn wt wn) {N : Nat} : ∀ n ∈ rowK ow rows ht hn wt wn N, 0 ≤ n ∧ n < (mvs rows).length := by
  intro n h
  unfold rowK at h
  obtain ⟨i, _, rfl⟩ := List.mem_map.mp h
  obtain ⟨n0, n1, _⟩ := num_ok T (orb_val T i)
  exact ⟨n0, n1⟩
theorem sum01 (l : List Int) (h : ∀ x ∈ l, x = 0 ∨ x = 1) : 0 ≤ l.sum ∧ l.sum ≤ l.length := by
  induction l with
  | nil => simp
  | cons a l ih =>
    obtain ⟨h1, h2⟩ := ih fun x hx => h x (by simp [hx])
    have := h a (by simp)
    simp only [List.sum_cons, List.length_cons]
    omega
theorem ind01 (x : Int) (l : List Int) : ∀ y ∈ ind rows x l, y = 0 ∨ y = 1 := by
  intro y h
  unfold ind at h
  obtain ⟨n, _, rfl⟩ := List.mem_map.mp h
  split <;> simp
theorem counted (S : Store) (T : Tri L ow rows ht hn wt wn) {N b : Nat} (hN : N ≤ 2400) (r : Ring (Orb ow rows ht hn wt wn) N b) {m x : Int} (h0 : 0 ≤ m) (h1 : m ≤ 1000000000000000000000000000000) (x0 : 0 ≤ x) (x1 : x < L) :
    F_counted [plD L ow rows, mcD "hand" ht hn, mcD "weather" wt wn, .int x, .int m] S = .ok (.int (sumL (ind rows x ((rowK ow rows ht hn wt wn N).take b)) (ind rows x ((rowK ow rows ht hn wt wn N).drop b)) m)) S := by
  have e1 := moves_of L ow rows S (by have := mvs_le T.P; omega)
  have hl := r.lt
  have lenK := rowK_length (ow := ow) (rows := rows) (ht := ht) (hn := hn) (wt := wt) (wn := wn) N
  have inner : ∀ (Γ0 Γ1 Γ2 Γ4 Γ6 Γ7 Γ8 Γ9 : Option Sl) (l : List Int), (∀ n ∈ l, 0 ≤ n ∧ n < (mvs rows).length) →
      lcL lt1_counted bYes lf1_counted [Γ0, Γ1, Γ2, some (.val (.int x)), Γ4, some (.val (.lst ((mvs rows).map tI3))), Γ6, Γ7, Γ8, Γ9, none] (l.map .int) S = .ok ((ind rows x l).map .int) S := fun _ _ _ _ _ _ _ _ l hl => by
    rw [ind, List.map_map]
    refine lcL_all .int _ l fun n hn => ?_
    have a := atI_gI (f := tI3) (l := mvs rows) (hl n hn).1 (hl n hn).2
    simp [lt1_counted, lf1_counted, a]
  have outer : ∀ (Γ0 Γ1 Γ2 Γ4 Γ6 Γ7 Γ8 Γ10 : Option Sl) (hd lp : List Int), (∀ n ∈ hd, 0 ≤ n ∧ n < (mvs rows).length) → (∀ n ∈ lp, 0 ≤ n ∧ n < (mvs rows).length) → hd.length ≤ 16777216 → lp.length ≤ 16777216 →
      lcL lt2_counted bYes lf2_counted [Γ0, Γ1, Γ2, some (.val (.int x)), Γ4, some (.val (.lst ((mvs rows).map tI3))), Γ6, Γ7, Γ8, none, Γ10] [.lst (hd.map .int), .lst (lp.map .int)] S = .ok [.lst ((ind rows x hd).map .int), .lst ((ind rows x lp).map .int)] S := fun Γ0 Γ1 Γ2 Γ4 Γ6 Γ7 Γ8 Γ10 hd lp h1 h2 h3 h4 => by
    refine lcL_all (t := lt2_counted) (f := lf2_counted) (S := S) lstI (fun l => lstI (ind rows x l)) [hd, lp] (Γ := [Γ0, Γ1, Γ2, some (.val (.int x)), Γ4, some (.val (.lst ((mvs rows).map tI3))), Γ6, Γ7, Γ8, none, Γ10]) fun l hl => ?_
    · have hb : (∀ n ∈ l, 0 ≤ n ∧ n < (mvs rows).length) ∧ l.length ≤ 16777216 := by
        simp at hl
        rcases hl with rfl | rfl
        · exact ⟨h1, h3⟩
        · exact ⟨h2, h4⟩
      simp [lt2_counted, lf2_counted, lstI, hb.2, inner _ _ _ _ _ _ _ _ l hb.1]
  have o := fun Γ0 Γ1 Γ2 Γ4 Γ6 Γ7 Γ8 Γ10 => outer Γ0 Γ1 Γ2 Γ4 Γ6 Γ7 Γ8 Γ10 ((rowK ow rows ht hn wt wn N).take b) ((rowK ow rows ht hn wt wn N).drop b) (fun n h => row_bd T n (List.mem_of_mem_take h)) (fun n h => row_bd T n (List.mem_of_mem_drop h)) (by simp; omega) (by simp; omega)
  have s01 := sum01 _ (ind01 (rows := rows) x ((rowK ow rows ht hn wt wn N).drop b))
  have ll : (ind rows x ((rowK ow rows ht hn wt wn N).drop b)).length = N - b := by simp [ind, lenK]
  have sa := sum_along S (ind rows x ((rowK ow rows ht hn wt wn N).take b)) (ind rows x ((rowK ow rows ht hn wt wn N).drop b)) m h0 (by omega) (by omega) (by omega) (by omega)
  have hx : ¬ L ≤ x := by omega
  have eo := course_of S T hN r
  simp only [lstI] at sa eo o
  generalize (rowK ow rows ht hn wt wn N).take b = hd at *
  generalize (rowK ow rows ht hn wt wn N).drop b = lp at *
  simp [F_counted, fnOf, g_counted, want_machines S T, want_many S h0 h1, is_count_int, x0, hx, eo, e1, o, sa]
end
end K76
set_option Elab.async false
set_option linter.all false
set_option maxRecDepth 100000
set_option maxHeartbeats 4000000
namespace K76
open PySem L2 DL
theorem range1 {n : Int} (h0 : 0 ≤ n) (h1 : n ≤ 1000000) : rangeD [.int n] = some (rngD 0 n.toNat) := by
  show (if -(2 ^ 62) ≤ n ∧ n < 2 ^ 62 then some (rngD 0 n.toNat) else none) = _
  rw [p62, if_pos ⟨by omega, by omega⟩]
theorem pw_zip {α : Type} {R : α → α → Prop} : ∀ {l : List α}, l.Pairwise R → ∀ p ∈ l.zip l.tail, R p.1 p.2
  | [], _, p, hp => by simp at hp
  | [a], _, p, hp => by simp at hp
  | a :: b :: l, h, p, hp => by
    rw [List.pairwise_cons] at h
    simp only [List.tail_cons, List.zip_cons_cons, List.mem_cons] at hp
    rcases hp with rfl | hp
    · exact h.1 b (by simp)
    · exact pw_zip h.2 p (by simpa using hp)
theorem insS_length (x : List Int) : ∀ l : List (List Int), (insS x l).length ≤ l.length + 1 ∧ 1 ≤ (insS x l).length
  | [] => by simp [insS]
  | y :: l => by
    have := insS_length x l
    unfold insS
    split
    · simp
    · split <;> simp <;> omega
theorem sortS_length : ∀ l : List (List Int), (sortS l).length ≤ l.length ∧ (l ≠ [] → 1 ≤ (sortS l).length)
  | [] => by simp [sortS]
  | x :: l => by
    have h1 := insS_length x (sortS l)
    have h2 := (sortS_length l).1
    unfold sortS
    refine ⟨by simp; omega, fun _ => ?_⟩
    omega
abbrev l2 (p : Mv) : List Int := [p.1, p.2]
def toP (ns : List Int) : Mv := (ns.getD 0 0, ns.getD 1 0)
theorem sort_row (ps : List Mv) (hb : ∀ p ∈ ps, 0 ≤ p.1 ∧ p.1 < 10 ∧ 0 ≤ p.2 ∧ p.2 < 10) (hne : ps ≠ []) :
    ∃ r : List Mv, (sortS (ps.map l2)).map tupI = r.map tI2 ∧ 1 ≤ r.length ∧ r.length ≤ ps.length ∧ (∀ m ∈ r, m ∈ ps) ∧ ∀ p ∈ r.zip r.tail, HT.lexLt [p.1.1, p.1.2] [p.2.1, p.2.2] = true := by
  have bd : BdAll 2 10 (ps.map l2) := fun z hz => by
    obtain ⟨p, hp, rfl⟩ := List.mem_map.mp hz
    have := hb p hp
    refine ⟨rfl, fun m hm => ?_⟩
    simp at hm
    rcases hm with rfl | rfl <;> omega
  have mem : ∀ z ∈ sortS (ps.map l2), ∃ p ∈ ps, z = l2 p := fun z hz => by
    obtain ⟨p, hp, e⟩ := List.mem_map.mp (mem_sortS.mp hz)
    exact ⟨p, hp, e.symm⟩
  have hl := sortS_length (ps.map l2)
  refine ⟨(sortS (ps.map l2)).map toP, ?_, ?_, ?_, fun m hm => ?_, fun p hp => ?_⟩
  · rw [List.map_map]
    refine List.map_congr_left fun z hz => ?_
    obtain ⟨p, _, rfl⟩ := mem z hz
    rfl
  · rw [List.length_map]; exact hl.2 (by simpa using hne)
  · rw [List.length_map]; have := hl.1; rwa [List.length_map] at this
  · obtain ⟨z, hz, rfl⟩ := List.mem_map.mp hm
    obtain ⟨p, hp, rfl⟩ := mem z hz
    exact hp
  · rw [← List.map_tail, List.zip_map] at hp
    obtain ⟨⟨z1, z2⟩, hq, rfl⟩ := List.mem_map.mp hp
    have lt := pw_zip (incr_sortS bd) _ hq
    obtain ⟨p1, _, rfl⟩ := mem z1 (List.of_mem_zip hq).1
    obtain ⟨p2, _, rfl⟩ := mem z2 (List.mem_of_mem_tail (List.of_mem_zip hq).2)
    have b1 := bd (l2 p1) (List.mem_map.mpr ⟨p1, ‹_›, rfl⟩)
    have b2 := bd (l2 p2) (List.mem_map.mpr ⟨p2, ‹_›, rfl⟩)
    exact (lexLt_code (B := 10) (xs := l2 p1) (ys := l2 p2) rfl b1.2 b2.2).mpr lt
theorem tupsOf_pairs : ∀ ps : List Mv, tupsOf (ps.map tI2) = some (ps.map l2)
  | [] => rfl
  | p :: ps => by simp [tupsOf, tI2, intsOf, tupsOf_pairs ps]
theorem ssOk_pairs (ps : List Mv) (hl : ps.length < 64) (hb : ∀ p ∈ ps, 0 ≤ p.1 ∧ p.1 < 10 ∧ 0 ≤ p.2 ∧ p.2 < 10) : ssOk 2 10 (ps.map l2) = true := by
  unfold ssOk
  simp [hl]
  intro a b h
  have := hb (a, b) h
  simp at this
  omega
theorem pairs_of {A B : Int} : ∀ (xs : List D), (∀ x ∈ xs, ∃ p : Mv, x = tI2 p ∧ 0 ≤ p.1 ∧ p.1 < A ∧ 0 ≤ p.2 ∧ p.2 < B) → ∃ ps : List Mv, xs = ps.map tI2 ∧ ∀ p ∈ ps, 0 ≤ p.1 ∧ p.1 < A ∧ 0 ≤ p.2 ∧ p.2 < B
  | [], _ => ⟨[], rfl, fun _ h => by cases h⟩
  | x :: xs, h => by
    obtain ⟨p, rfl, hp⟩ := h x (by simp)
    obtain ⟨ps, rfl, h2⟩ := pairs_of xs fun y hy => h y (by simp [hy])
    exact ⟨p :: ps, rfl, fun q hq => by
      rcases List.mem_cons.mp hq with rfl | hq
      · exact hp
      · exact h2 q hq⟩
/-- so much of a plant is drawn -/
structure PlPre (L n : Int) (i : Nat) (ow : List Int) (rows : List (List Mv)) : Prop where
  lo : ow.length = i
  lr : rows.length = i
  own : ∀ o ∈ ow, 0 ≤ o ∧ o < 2
  row : ∀ r ∈ rows, 1 ≤ r.length ∧ r.length ≤ 3
  mv : ∀ r ∈ rows, ∀ m ∈ r, 0 ≤ m.1 ∧ m.1 < L ∧ 0 ≤ m.2 ∧ m.2 < n
  inc : ∀ r ∈ rows, ∀ p ∈ r.zip r.tail, HT.lexLt [p.1.1, p.1.2] [p.2.1, p.2.2] = true
theorem plant_step {L n : Int} (hL1 : 1 ≤ L) (hL : L ≤ 4) (hn1 : 1 ≤ n) (hn : n ≤ 6) {S R : Store} (hp : Pot S R) {i : Nat} {ow : List Int} {rows : List (List Mv)} (h : PlPre L n i ow rows) (hi : i < 6) (x5 x6 : Option Sl) :
    ∃ ow' rows' x6' S', b1__law_plant [some (.val (.loc 0)), some (.val (.int L)), some (.val (.int n)), some (.own (.lst (ow.map .int))), some (.own (.lst (rows.map rowD))), x5, x6, none] S =
      .nx [some (.val (.loc 0)), some (.val (.int L)), some (.val (.int n)), some (.own (.lst (ow'.map .int))), some (.own (.lst (rows'.map rowD))), x5, x6', none] S' ∧ Pot S' R ∧ PlPre L n (i + 1) ow' rows' := by
  obtain ⟨d, S1, e1, hp1, d0, d1⟩ := draw hp (m := 2) (by omega) (by omega)
  obtain ⟨c, S2, e2, hp2, c0, c1⟩ := draw hp1 (m := 3) (by omega) (by omega)
  have lc := lcL_inv (t := lt1__law_plant) (f := lf1__law_plant) (Γ := [some (.val (.loc 0)), some (.val (.int L)), some (.val (.int n)), some (.own (.lst (ow.map .int ++ [.int d]))), some (.own (.lst (rows.map rowD))), x5, x6, none]) (fun S => Pot S R)
    (fun x => ∃ p : Mv, x = tI2 p ∧ 0 ≤ p.1 ∧ p.1 < L ∧ 0 ≤ p.2 ∧ p.2 < n) (rngD 0 (1 + c).toNat) S2 hp2 fun dd hd S hS => by
      obtain ⟨a, S3, e3, hp3, a0, a1⟩ := draw hS (m := L) (by omega) (by omega)
      obtain ⟨b, S4, e4, hp4, b0, b1⟩ := draw hp3 (m := n) (by omega) (by omega)
      refine ⟨tI2 (a, b), S4, ?_, hp4, (a, b), rfl, a0, a1, b0, b1⟩
      simp [lt1__law_plant, lf1__law_plant, e3, e4, tI2]
  obtain ⟨xs, S3, e3, hp3, lx, px⟩ := lc
  obtain ⟨ps, rfl, pb⟩ := pairs_of xs px
  have lps : ps.length = (1 + c).toNat := by simpa [rngD] using lx
  have hb : ∀ p ∈ ps, 0 ≤ p.1 ∧ p.1 < 10 ∧ 0 ≤ p.2 ∧ p.2 < 10 := fun p hp => by have := pb p hp; omega
  have hne : ps ≠ [] := fun z => by subst z; simp at lps; omega
  obtain ⟨r, er, r1, r2, r3, r4⟩ := sort_row ps hb hne
  have ok := ssOk_pairs ps (by omega) hb
  have lrn : (rngD 0 (1 + c).toNat).length ≤ 16777216 := by simp [rngD]; omega
  have g1 : ow.length < 16777216 := by have := h.lo; omega
  have g2 : rows.length < 16777216 := by have := h.lr; omega
  have rg := range1 (n := 1 + c) (by omega) (by omega)
  refine ⟨ow ++ [d], rows ++ [r], some (.val (.lst (ps.map tI2))), S3, ?_, hp3, ⟨by simp [h.lo], by simp [h.lr], fun o ho => ?_, fun q hq => ?_, fun q hq => ?_, fun q hq => ?_⟩⟩
  · have er' : rowD r = .tup ((sortS (ps.map l2)).map tupI) := by rw [er]; rfl
    simp [b1__law_plant, e1, e2, g1, g2, lrn, e3, tupsOf_pairs, ok, rg, er']
  · rcases List.mem_append.mp ho with ho | ho
    · exact h.own o ho
    · simp at ho; subst ho; exact ⟨d0, d1⟩
  · rcases List.mem_append.mp hq with hq | hq
    · exact h.row q hq
    · simp at hq; subst hq; exact ⟨r1, by omega⟩
  · rcases List.mem_append.mp hq with hq | hq
    · exact h.mv q hq
    · simp at hq; subst hq; exact fun m hm => pb m (r3 m hm)
  · rcases List.mem_append.mp hq with hq | hq
    · exact h.inc q hq
    · simp at hq; subst hq; exact r4
end K76
set_option Elab.async false
set_option linter.all false
set_option maxRecDepth 100000
set_option maxHeartbeats 4000000
namespace K76
open PySem L2 DL
theorem law_moves_loop (pl : D) (S : Store) : ∀ (rows : List (List Mv)) (n : Nat) (acc : List D) (x y : Option Sl), acc.length + (mvsA n rows).length ≤ 16777216 →
    ∃ x' y', forL t1__law_moves b1__law_moves (enumF n (rows.map rowD)) [some (.val pl), some (.own (.lst acc)), x, y, none, none] S = .nx [some (.val pl), some (.own (.lst (acc ++ (mvsA n rows).map tI3))), x', y', none, none] S
  | [], n, acc, x, y, _ => ⟨x, y, by simp [enumF, forL, mvsA]⟩
  | r :: rs, n, acc, x, y, h => by
    have hl : acc.length + (r.length + (mvsA ((n : Int) + 1) rs).length) ≤ 16777216 := by simpa [mvsA] using h
    obtain ⟨x', y', e⟩ := law_moves_loop pl S rs (n + 1) (acc ++ r.map fun m => tI3 (n, m.1, m.2)) (some (.val (.int n))) (some (.val (rowD r))) (by
      rw [List.length_append, List.length_map]
      have : ((n + 1 : Nat) : Int) = (n : Int) + 1 := by omega
      rw [this]
      omega)
    refine ⟨x', y', ?_⟩
    have lc : lcL lt1__law_moves bYes lf1__law_moves [some (.val pl), some (.own (.lst acc)), some (.val (.int n)), some (.val (.tup (r.map tI2))), none, none] (r.map tI2) S = .ok (r.map fun m => tI3 (n, m.1, m.2)) S := by
      refine lcL_all tI2 (fun m => tI3 (n, m.1, m.2)) r fun m _ => ?_
      simp [lt1__law_moves, lf1__law_moves, tI2, tI3]
    have h1 : r.length ≤ 16777216 := by omega
    have h2 : acc.length + r.length ≤ 16777216 := by omega
    have e1 : ((n + 1 : Nat) : Int) = (n : Int) + 1 := by omega
    rw [List.map_cons, enumF, forL_nx (Γ1 := [some (.val pl), some (.own (.lst acc)), some (.val (.int n)), some (.val (rowD r)), none, none]) (by simp [t1__law_moves]) (by simp [b1__law_moves, rowD, lc, h1, h2]; exact ⟨rfl, rfl⟩)]
    rw [show rowD r = .tup (r.map tI2) from rfl] at e
    rw [e, e1]
    simp [mvsA, Function.comp_def]
theorem law_moves (L : Int) (ow : List Int) (rows : List (List Mv)) (S : Store) (h : (mvs rows).length ≤ 16777216) : F__law_moves [plD L ow rows] S = .ok (.lst ((mvs rows).map tI3)) S := by
  obtain ⟨x, y, e⟩ := law_moves_loop (plD L ow rows) S rows 0 [] none none (by simpa [mvs] using h)
  simp only [plD] at e ⊢
  simp [F__law_moves, fnOf, g__law_moves, enumD_eq, e, mvs]

theorem rngD_get {lo : Int} {n i : Nat} {d : D} (h : (rngD lo n)[i]? = some d) : i < n ∧ d = .int (lo + (i : Int)) := by
  rw [rngD_eq, List.getElem?_map] at h
  cases e : (List.range n)[i]? with
  | none => rw [e] at h; cases h
  | some j =>
    rw [e] at h
    cases h
    have := List.getElem?_eq_some_iff.mp e
    obtain ⟨h1, h2⟩ := this
    simp at h1 h2
    subst h2
    exact ⟨h1, rfl⟩
theorem law_plant {L n : Int} (hL1 : 1 ≤ L) (hL : L ≤ 4) (hn1 : 1 ≤ n) (hn : n ≤ 6) {S R : Store} (hp : Pot S R) :
    ∃ ow rows S', F__law_plant [.loc 0, .int L, .int n] S = .ok (plD L ow rows) S' ∧ Pot S' R ∧ PlOk L ow rows ∧ (rows.length : Int) = n ∧ (mvs rows).length ≤ 18 ∧ ∀ r ∈ rows, r.length ≤ 3 := by
  obtain ⟨Γ, S1, e, I⟩ := forL_inv (t := t1__law_plant) (body := b1__law_plant) (fun i Γ S => ∃ ow rows x5 x6, Γ = [some (.val (.loc 0)), some (.val (.int L)), some (.val (.int n)), some (.own (.lst (ow.map .int))), some (.own (.lst (rows.map rowD))), x5, x6, none] ∧ Pot S R ∧ PlPre L n i ow rows)
    (rngD 0 n.toNat) 0 [some (.val (.loc 0)), some (.val (.int L)), some (.val (.int n)), some (.own (.lst [])), some (.own (.lst [])), none, none, none] S ⟨[], [], none, none, rfl, hp, ⟨rfl, rfl, fun _ h => (by cases h), fun _ h => (by cases h), fun _ h => (by cases h), fun _ h => (by cases h)⟩⟩
    fun i d Γ S hd ⟨ow, rows, x5, x6, eΓ, hS, pre⟩ => by
      obtain ⟨hi, rfl⟩ := rngD_get hd
      obtain ⟨ow', rows', x6', S', e1, e2, e3⟩ := plant_step hL1 hL hn1 hn hS (i := i) (by simpa using pre) (by omega) (some (.val (.int (0 + (i : Int))))) x6
      refine ⟨_, _, S', ?_, e1, ow', rows', _, x6', rfl, e2, by simpa using e3⟩
      subst eΓ
      simp [t1__law_plant]
  obtain ⟨ow, rows, x5, x6, rfl, hS1, pre⟩ := I
  have hlen : (rngD 0 n.toNat).length = n.toNat := by simp [rngD]
  rw [hlen, Nat.zero_add] at pre
  have rg := range1 (n := n) (by omega) (by omega)
  have tot : ∀ l : List (List Mv), (∀ r ∈ l, 1 ≤ r.length ∧ r.length ≤ 3) → (l.map List.length).sum ≤ 3 * l.length := fun l h => by
    induction l with
    | nil => simp
    | cons a l ih =>
      have := ih fun r hr => h r (by simp [hr])
      have := (h a (by simp)).2
      simp only [List.map_cons, List.sum_cons, List.length_cons]
      omega
  have t := tot rows pre.row
  have hr := pre.lr
  have ho := pre.lo
  refine ⟨ow, rows, S1, ?_, hS1, ⟨hL1, hL, by omega, by omega, by omega, pre.own, fun r h => by have := pre.row r h; omega, fun r h m hm => by have := pre.mv r h m hm; omega, pre.inc, by omega⟩, by omega, by rw [mvs, mvsA_length]; omega, fun r h => (pre.row r h).2⟩
  simp [F__law_plant, fnOf, g__law_plant, rg, e, plD]
end K76
set_option Elab.async false
set_option linter.all false
set_option maxRecDepth 100000
set_option maxHeartbeats 4000000
namespace K76
open PySem L2 DL
theorem ints_bd {B : Int} : ∀ (xs : List D), (∀ x ∈ xs, ∃ k : Int, x = .int k ∧ 0 ≤ k ∧ k < B) → ∃ ks : List Int, xs = ks.map .int ∧ ∀ k ∈ ks, 0 ≤ k ∧ k < B
  | [], _ => ⟨[], rfl, fun _ h => by cases h⟩
  | x :: xs, h => by
    obtain ⟨k, rfl, hk⟩ := h x (by simp)
    obtain ⟨ks, rfl, h2⟩ := ints_bd xs fun y hy => h y (by simp [hy])
    exact ⟨k :: ks, rfl, fun q hq => by
      rcases List.mem_cons.mp hq with rfl | hq
      · exact hk
      · exact h2 q hq⟩
def TkPre (ow : List Int) (rows : List (List Mv)) (side : Int) (i : Nat) (t : List (Option Int)) : Prop := t.length = i ∧ ∀ (j : Nat) (o : Int) (v : Option Int) (r : List Mv), ow[j]? = some o → t[j]? = some v → rows[j]? = some r →
  (o ≠ side → v = none) ∧ (o = side → ∃ k, v = some k ∧ 0 ≤ k ∧ k < r.length)
section
variable {L : Int} {ow : List Int} {rows : List (List Mv)}
theorem take_loop (P : PlOk L ow rows) {side mem : Int} {S R : Store} (hp : Pot S R) (pl tk nx : D) (so1 so2 : SO) (x6 x8 x9 : Option Sl) :
    ∃ t S' x8' x9', forL t1__law_machine b1__law_machine (zips (ow.map .int) (rows.map rowD)) [some (.val (.loc 0)), some (.val (plD L ow rows)), some (.val (.int side)), some (.val (.int mem)), some (.own so1), some (.own so2), x6, some (.own (.lst [])), x8, x9, none] S =
      .nx [some (.val (.loc 0)), some (.val (plD L ow rows)), some (.val (.int side)), some (.val (.int mem)), some (.own so1), some (.own so2), x6, some (.own (.lst (t.map opD))), x8', x9', none] S' ∧ Pot S' R ∧ TkPre ow rows side ow.length t := by
  obtain ⟨Γ, S1, e, I⟩ := forL_inv (t := t1__law_machine) (body := b1__law_machine) (fun i Γ S => ∃ t x8 x9, Γ = [some (.val (.loc 0)), some (.val (plD L ow rows)), some (.val (.int side)), some (.val (.int mem)), some (.own so1), some (.own so2), x6, some (.own (.lst (t.map opD))), x8, x9, none] ∧ Pot S R ∧ TkPre ow rows side i t)
    (zips (ow.map .int) (rows.map rowD)) 0 [some (.val (.loc 0)), some (.val (plD L ow rows)), some (.val (.int side)), some (.val (.int mem)), some (.own so1), some (.own so2), x6, some (.own (.lst [])), x8, x9, none] S ⟨[], x8, x9, rfl, hp, rfl, fun j o v r _ h _ => by simp at h⟩
    fun i d Γ S hd ⟨t, y8, y9, eΓ, hS, tl, tv⟩ => by
      rw [zips_map, List.getElem?_map] at hd
      cases hz : (ow.zip rows)[i]? with
      | none => rw [hz] at hd; cases hd
      | some p =>
        obtain ⟨o, r⟩ := p
        rw [hz] at hd
        cases hd
        obtain ⟨ho, hr⟩ := List.getElem?_zip_eq_some.mp hz
        have ho : ow[i]? = some o := ho
        have hr : rows[i]? = some r := hr
        have rb := P.row r (List.mem_of_getElem? hr)
        have hil := (List.getElem?_eq_some_iff.mp hr).1
        have hn := P.n24
        have g1 : t.length < 16777216 := by omega
        have ext : ∀ v : Option Int, ((o ≠ side → v = none) ∧ (o = side → ∃ k, v = some k ∧ 0 ≤ k ∧ k < r.length)) → TkPre ow rows side (0 + i + 1) (t ++ [v]) := fun v hv => by
          refine ⟨by simp [tl], fun j o' v' r' h1 h2 h3 => ?_⟩
          by_cases hj : j < t.length
          · rw [List.getElem?_append_left hj] at h2
            exact tv j o' v' r' h1 h2 h3
          · have hji : j = i := by
              have := (List.getElem?_eq_some_iff.mp h2).1
              simp at this
              omega
            subst hji
            rw [List.getElem?_append_right (by omega), show j - t.length = 0 by omega] at h2
            cases h2
            rw [ho] at h1
            rw [hr] at h3
            cases h1
            cases h3
            exact hv
        subst eΓ
        by_cases h : o = side
        · obtain ⟨c, S2, e2, hp2, c0, c1⟩ := draw hS (m := (r.length : Int)) (by omega) (by omega)
          refine ⟨_, _, S2, by simp [t1__law_machine]; rfl, ?_, t ++ [some c], some (.val (.int o)), some (.val (rowD r)), rfl, hp2, ext _ ⟨fun z => absurd h z, fun _ => ⟨c, rfl, c0, c1⟩⟩⟩
          simp [b1__law_machine, h, rowD, e2, g1, opD]
        · refine ⟨_, _, S, by simp [t1__law_machine]; rfl, ?_, t ++ [none], some (.val (.int o)), some (.val (rowD r)), rfl, hS, ext _ ⟨fun _ => rfl, fun z => absurd z h⟩⟩
          simp [b1__law_machine, h, rowD, g1, opD]
  obtain ⟨t, y8, y9, rfl, hS1, pre⟩ := I
  refine ⟨t, S1, y8, y9, e, hS1, ?_⟩
  have hl : (zips (ow.map D.int) (rows.map rowD)).length = ow.length := by rw [zips_length]; simp [P.len]
  rw [hl, Nat.zero_add] at pre
  exact pre
theorem law_machine (P : PlOk L ow rows) {side mem : Int} {most : Nat} (hs : side = 0 ∨ side = 1) (hm1 : 1 ≤ mem) (hm2 : mem ≤ most) (hm3 : most ≤ 400) {S R : Store} (hp : Pot S R) :
    ∃ tk nx S', F__law_machine [.loc 0, plD L ow rows, .int side, .int mem] S = .ok (mcD (if side = 0 then "hand" else "weather") tk nx) S' ∧ Pot S' R ∧ MOk ow rows side most tk nx ∧ (tk.length : Int) = mem := by
  have hml := mvs_le P
  obtain ⟨Γ, S1, e, I⟩ := forL_inv (t := t2__law_machine) (body := b2__law_machine) (fun i Γ S => ∃ (tk : List (List (Option Int))) (nx : List (List Int)) (x6 x7 x8 x9 : Option Sl), Γ = [some (.val (.loc 0)), some (.val (plD L ow rows)), some (.val (.int side)), some (.val (.int mem)), some (.own (.lst (tk.map tkD))), some (.own (.lst (nx.map nxD))), x6, x7, x8, x9, none] ∧ Pot S R ∧
      tk.length = i ∧ nx.length = i ∧ (∀ t ∈ tk, TkPre ow rows side ow.length t) ∧ ∀ n ∈ nx, n.length = (mvs rows).length ∧ ∀ k ∈ n, 0 ≤ k ∧ k < mem)
    (rngD 0 mem.toNat) 0 [some (.val (.loc 0)), some (.val (plD L ow rows)), some (.val (.int side)), some (.val (.int mem)), some (.own (.lst [])), some (.own (.lst [])), none, none, none, none, none] S
    ⟨[], [], none, none, none, none, rfl, hp, rfl, rfl, fun _ h => (by cases h), fun _ h => (by cases h)⟩
    fun i d Γ S hd ⟨tk, nx, x6, x7, x8, x9, eΓ, hS, l1, l2, h1, h2⟩ => by
      obtain ⟨hi, rfl⟩ := rngD_get hd
      obtain ⟨t, S2, y8, y9, e2, hS2, tp⟩ := take_loop P (side := side) (mem := mem) hS .non .non .non (.lst (tk.map tkD)) (.lst (nx.map nxD)) (some (.val (.int (0 + (i : Int))))) x8 x9
      have em := law_moves L ow rows S2 (by omega)
      have lc := lcL_inv (t := lt1__law_machine) (f := lf1__law_machine) (Γ := [some (.val (.loc 0)), some (.val (plD L ow rows)), some (.val (.int side)), some (.val (.int mem)), some (.own (.lst (tk.map tkD ++ [tkD t]))), some (.own (.lst (nx.map nxD))), some (.val (.int (0 + (i : Int)))), some (.val (.lst (t.map opD))), y8, y9, none]) (fun S => Pot S R)
        (fun x => ∃ k : Int, x = .int k ∧ 0 ≤ k ∧ k < mem) ((mvs rows).map tI3) S2 hS2 fun dd hd S hS => by
          obtain ⟨a, S3, e3, hp3, a0, a1⟩ := draw hS (m := mem) hm1 (by omega)
          refine ⟨.int a, S3, ?_, hp3, a, rfl, a0, a1⟩
          simp [lt1__law_machine, lf1__law_machine, e3]
      obtain ⟨xs, S3, e3, hp3, lx, px⟩ := lc
      obtain ⟨ks, rfl, kb⟩ := ints_bd xs px
      have lks : ks.length = (mvs rows).length := by simpa using lx
      have g1 : tk.length < 16777216 := by omega
      have g2 : nx.length < 16777216 := by omega
      have g3 : (mvs rows).length ≤ 16777216 := by omega
      refine ⟨[some (.val (.loc 0)), some (.val (plD L ow rows)), some (.val (.int side)), some (.val (.int mem)), some (.own (.lst (tk.map tkD))), some (.own (.lst (nx.map nxD))), some (.val (.int (0 + (i : Int)))), x7, x8, x9, none], _, S3, ?_, ?_, tk ++ [t], nx ++ [ks], some (.val (.int (0 + (i : Int)))), some (.val (.lst (t.map opD))), y8, y9, rfl, hp3, by simp [l1], by simp [l2], fun q hq => ?_, fun q hq => ?_⟩
      · subst eΓ
        simp [t2__law_machine]
      · have et : tkD t = .tup (t.map opD) := rfl
        have en : nxD ks = .tup (ks.map .int) := rfl
        rw [et] at e3
        simp only [Int.zero_add] at e2 e3 ⊢
        simp [b2__law_machine, e2, em, e3, g1, g2, g3, et, en]
      · rcases List.mem_append.mp hq with hq | hq
        · exact h1 q hq
        · simp at hq; subst hq; exact tp
      · rcases List.mem_append.mp hq with hq | hq
        · exact h2 q hq
        · simp at hq; subst hq; exact ⟨lks, kb⟩
  obtain ⟨tk, nx, x6, x7, x8, x9, rfl, hS1, l1, l2, h1, h2⟩ := I
  have hlen : (rngD 0 mem.toNat).length = mem.toNat := by simp [rngD]
  rw [hlen, Nat.zero_add] at l1 l2
  have rg := range1 (n := mem) (by omega) (by omega)
  refine ⟨tk, nx, S1, ?_, hS1, ⟨by omega, by omega, by omega, fun t ht => (h1 t ht).1, fun t ht => (h1 t ht).2, fun n hn => (h2 n hn).1, fun n hn k hk => ?_⟩, by omega⟩
  · rcases hs with rfl | rfl
    · simp [F__law_machine, fnOf, g__law_machine, rg, e, mcD]
    · simp [F__law_machine, fnOf, g__law_machine, rg, e, mcD]
  · have := (h2 n hn).2 k hk
    omega
end
end K76
set_option Elab.async false
set_option linter.all false
set_option maxRecDepth 100000
set_option maxHeartbeats 4000000
namespace K76
open PySem L2 DL
theorem mvsA_ge : ∀ (rows : List (List Mv)) (n : Int), ∀ m ∈ mvsA n rows, n ≤ m.1
  | [], _, _, h => by cases h
  | r :: rs, n, m, h => by
    unfold mvsA at h
    rcases List.mem_append.mp h with h | h
    · obtain ⟨x, _, rfl⟩ := List.mem_map.mp h
      exact Int.le_refl _
    · have := mvsA_ge rs (n + 1) m h
      omega
theorem filter_none {α : Type} {p : α → Bool} {l : List α} (h : ∀ x ∈ l, p x = false) : l.filter p = [] := by
  rw [List.filter_eq_nil_iff]
  intro x hx
  rw [h x hx]
  exact Bool.false_ne_true
theorem filter_all {α : Type} {p : α → Bool} {l : List α} (h : ∀ x ∈ l, p x = true) : l.filter p = l := List.filter_eq_self.mpr h
theorem zipIdx_snd {α : Type} (l : List α) : ∀ a : Nat, (l.zipIdx a).map (fun p => (p.2 : Int)) = (List.range l.length).map fun (i : Nat) => (a : Int) + (i : Int) := by
  induction l with
  | nil => intro a; rfl
  | cons x l ih =>
    intro a
    rw [List.zipIdx_cons, List.map_cons, ih (a + 1), List.length_cons, List.range_succ_eq_map, List.map_cons, List.map_map]
    simp
    intro i _
    omega
theorem pos_nums : ∀ (rows : List (List Mv)) (n : Int) (a k : Nat), k < rows.length → (numsA a rows)[k]? = some ((((mvsA n rows).zipIdx a).filter fun p => decide (p.1.1 = n + (k : Int))).map fun p => (p.2 : Int))
  | [], _, _, _, h => by simp at h
  | r :: rs, n, a, 0, h => by
    unfold numsA mvsA
    rw [List.zipIdx_append, List.filter_append, List.map_append, filter_all, filter_none]
    · rw [zipIdx_snd]
      simp
    · intro p hp
      have h1 := List.mem_zipIdx hp
      have := mvsA_ge rs (n + 1) p.1 (by rw [h1.2.2]; exact List.getElem_mem _)
      simp
      omega
    · intro p hp
      have h1 := List.mem_zipIdx hp
      have : p.1 ∈ r.map fun m => (n, m.1, m.2) := by rw [h1.2.2]; exact List.getElem_mem _
      obtain ⟨x, _, e⟩ := List.mem_map.mp this
      simp [← e]
  | r :: rs, n, a, k + 1, h => by
    have ih := pos_nums rs (n + 1) (a + r.length) k (by simpa using h)
    unfold numsA mvsA
    rw [List.zipIdx_append, List.filter_append, List.map_append, filter_none, List.getElem?_cons_succ]
    · have e1 : ((a + r.length : Nat) : Int) = (a : Int) + (r.length : Int) := by omega
      rw [e1] at ih
      have e2 : n + 1 + (k : Int) = n + ((k + 1 : Nat) : Int) := by omega
      rw [e2] at ih
      rw [ih]
      simp
    · intro p hp
      have h1 := List.mem_zipIdx hp
      have : p.1 ∈ r.map fun m => (n, m.1, m.2) := by rw [h1.2.2]; exact List.getElem_mem _
      obtain ⟨x, _, e⟩ := List.mem_map.mp this
      simp [← e]
      omega
section
variable {L : Int} {ow : List Int} {rows : List (List Mv)} {ht : List (List (Option Int))} {hn : List (List Int)} {wt : List (List (Option Int))} {wn : List (List Int)}
def plK (L : Int) (ow : List Int) (rows : List (List Mv)) (ht : List (List (Option Int))) (hn : List (List Int)) (wt : List (List (Option Int))) (wn : List (List Int)) (most : Int) (k : Nat) (x8 x9 x10 x11 x12 x13 : Option Sl) : Gm :=
  [some (.val (plD L ow rows)), some (.val (mcD "hand" ht hn)), some (.val (mcD "weather" wt wn)), some (.val (.int most)), some (.val (.lst ((mvs rows).map tI3))), some (.val (tI3 (Orb ow rows ht hn wt wn k))),
    some (.own (.lst ((rowK ow rows ht hn wt wn k).map .int))), some (.own (.lst ((List.range k).map fun i => tI3 (Orb ow rows ht hn wt wn i)))), x8, x9, x10, x11, x12, x13, none, none]
theorem play_step (S : Store) (T : Tri L ow rows ht hn wt wn) (most : Int) (k : Nat) (x8 x9 x10 x11 x12 x13 : Option Sl) (hk : k < 1000000) :
    ∃ y9 y10 y11 y12 y13, b1__law_play (plK L ow rows ht hn wt wn most k x8 x9 x10 x11 x12 x13) S = .nx (plK L ow rows ht hn wt wn most (k + 1) x8 y9 y10 y11 y12 y13) S := by
  have v := orb_val T k
  obtain ⟨k0, k1, kh, kw⟩ := take_ok T v
  obtain ⟨n0, n1, _, en, el, _⟩ := num_ok T v
  obtain ⟨⟨p0, p1⟩, ⟨m0, m1⟩, ⟨o0, o1⟩⟩ := v
  have nx1 := Orb_succ (ow := ow) (rows := rows) (ht := ht) (hn := hn) (wt := wt) (wn := wn) k
  have eh := T.H.len
  have ew := T.W.len
  have hl := T.P.len
  have hml := mvs_le T.P
  have rk : rowK ow rows ht hn wt wn (k + 1) = rowK ow rows ht hn wt wn k ++ [num ow rows ht wt (Orb ow rows ht hn wt wn k)] := by
    unfold rowK
    rw [List.range_succ, List.map_append]
    rfl
  have sk : ((List.range (k + 1)).map fun i => tI3 (Orb ow rows ht hn wt wn i)) = ((List.range k).map fun i => tI3 (Orb ow rows ht hn wt wn i)) ++ [tI3 (Orb ow rows ht hn wt wn k)] := by
    rw [List.range_succ, List.map_append]
    rfl
  generalize ht' : Orb ow rows ht hn wt wn k = t at *
  have a0 := atI_gI (f := D.int) (l := ow) p0 (by omega)
  have a1 := atI_gI (f := tI3) (l := mvs rows) n0 n1
  have a2 := atI_gI (f := nxD) (l := hn) m0 (by omega)
  have a3 := atI_gI (f := nxD) (l := wn) o0 (by omega)
  have a4 := atI_gI (f := D.int) (l := gI hn t.2.1) n0 (by rw [T.H.nl _ (gI_mem m0 (by omega))]; exact n1)
  have a5 := atI_gI (f := D.int) (l := gI wn t.2.2) n0 (by rw [T.W.nl _ (gI_mem o0 (by omega))]; exact n1)
  have a6 := atI_gI (f := tkD) (l := ht) m0 m1
  have a7 := atI_gI (f := tkD) (l := wt) o0 o1
  have a8 := atI_gI (f := opD) (l := gI ht t.2.1) p0 (by rw [T.H.tl _ (gI_mem m0 m1)]; omega)
  have a9 := atI_gI (f := opD) (l := gI wt t.2.2) p0 (by rw [T.W.tl _ (gI_mem o0 o1)]; omega)
  have a10 := atI_gI (f := D.int) (l := gI (nums rows) t.1) k0 (by rw [el]; exact k1)
  rw [en] at a10
  have some_ : ∀ Γ0 Γ1 Γ2 Γ3 Γ5 Γ6 Γ7 Γ8 Γ10 Γ11 Γ12 Γ13 : Option Sl, lcL lt1__law_play lc1__law_play lf1__law_play [Γ0, Γ1, Γ2, Γ3, some (.val (.lst ((mvs rows).map tI3))), Γ5, Γ6, Γ7, Γ8, some (.val (.int t.1)), Γ10, Γ11, Γ12, Γ13, none, none]
      ((mvs rows).zipIdx.map fun p => .tup [.int (p.2 : Int), tI3 p.1]) S = .ok ((gI (nums rows) t.1).map .int) S := fun _ _ _ _ _ _ _ _ _ _ _ _ => by
    have pn := pos_nums rows 0 0 t.1.toNat (by omega)
    have e1 : gI (nums rows) t.1 = ((((mvs rows).zipIdx 0).filter fun p => decide (p.1.1 = t.1)).map fun p => (p.2 : Int)) := by
      have := getI_of (l := nums rows) pn
      rw [show ((t.1.toNat : Nat) : Int) = t.1 by omega, Int.zero_add] at this
      exact this
    rw [e1, List.map_map]
    refine lcL_ok (fun p : (Int × Int × Int) × Nat => .tup [.int (p.2 : Int), tI3 p.1]) (fun p => decide (p.1.1 = t.1)) (fun p => .int (p.2 : Int)) (mvs rows).zipIdx (fun p hp => ?_) fun p hp _ => ?_
    · simp [lt1__law_play, lc1__law_play]
    · simp [lt1__law_play, lf1__law_play]
  have z1 : (mvs rows).length ≤ 16777216 := by omega
  have z2 : k < 16777216 := by omega
  have rl := rowK_length (ow := ow) (rows := rows) (ht := ht) (hn := hn) (wt := wt) (wn := wn) k
  have et : tI3 t = .tup [.int t.1, .int t.2.1, .int t.2.2] := rfl
  refine ⟨some (.val (.int t.1)), some (.val (.int t.2.1)), some (.val (.int t.2.2)), some (.val (.lst ((gI (nums rows) t.1).map .int))), some (.val (.int (num ow rows ht wt t))), ?_⟩
  unfold plK
  rw [ht', nx1, rk, sk]
  by_cases h : gI ow t.1 = 0
  · rw [h] at a0
    rw [kh h] at a8
    have a8' : L2.atI ((gI ht t.2.1).map opD) t.1 = some (.int (takeV ow ht wt t)) := a8
    simp [b1__law_play, et, enumD_eq, enumF_map, z1, some_, a0, a1, a2, a3, a4, a5, a6, a8', a10, rl, z2]
    simp [tI3, nxt]
  · obtain ⟨h1, hw⟩ := kw h
    rw [h1] at a0
    rw [hw] at a9
    have a9' : L2.atI ((gI wt t.2.2).map opD) t.1 = some (.int (takeV ow ht wt t)) := a9
    simp [b1__law_play, et, enumD_eq, enumF_map, z1, some_, a0, a1, a2, a3, a4, a5, a7, a9', a10, rl, z2]
    simp [tI3, nxt]
end
end K76
set_option Elab.async false
set_option linter.all false
set_option maxRecDepth 100000
set_option maxHeartbeats 4000000
namespace K76
open PySem L2 DL
theorem sFor_range {t : Tgt} {b : Es} {Γ : Gm} {S : Store} {i : Nat} {n : Int} {zs : List D} (h : Γ[i]? = some (some (.val (.int n)))) (rg : rangeD [.int n] = some zs) : sFor (iVia rangeD (aCons (eV i) aNil)) t b Γ S = forL t b zs Γ S := by
  have e1 : iVia rangeD (aCons (eV i) aNil) Γ S = .ok zs S := by
    rw [c_iVia, c_aCons, c_eV, h]
    simp only [RE.bind_ok, c_aNil]
    rw [rg]
  rw [c_sFor, e1]
  rfl
section
variable {L : Int} {ow : List Int} {rows : List (List Mv)} {ht : List (List (Option Int))} {hn : List (List Int)} {wt : List (List (Option Int))} {wn : List (List Int)}
theorem law_play (S : Store) (T : Tri L ow rows ht hn wt wn) (most : Nat) (hm : most ≤ 1000000) :
    F__law_play [plD L ow rows, mcD "hand" ht hn, mcD "weather" wt wn, .int most] S = .ok (.tup [lstI (rowK ow rows ht hn wt wn most), .lst ((List.range most).map fun i => tI3 (Orb ow rows ht hn wt wn i))]) S := by
  obtain ⟨Γ, S1, e, I⟩ := forL_inv (t := t1__law_play) (body := b1__law_play) (fun i Γ S' => S' = S ∧ ∃ x8 x9 x10 x11 x12 x13, Γ = plK L ow rows ht hn wt wn most i x8 x9 x10 x11 x12 x13)
    (rngD 0 most) 0 (plK L ow rows ht hn wt wn most 0 none none none none none none) S ⟨rfl, none, none, none, none, none, none, rfl⟩ fun i d Γ S' hd ⟨eS, x8, x9, x10, x11, x12, x13, eΓ⟩ => by
      obtain ⟨hi, rfl⟩ := rngD_get hd
      subst eΓ
      subst eS
      rw [Nat.zero_add]
      obtain ⟨y9, y10, y11, y12, y13, e1⟩ := play_step S' T most i (some (.val (.int (0 + (i : Int))))) x9 x10 x11 x12 x13 (by omega)
      exact ⟨plK L ow rows ht hn wt wn most i (some (.val (.int (0 + (i : Int))))) x9 x10 x11 x12 x13, _, S', by simp [t1__law_play, plK], e1, rfl, _, y9, y10, y11, y12, y13, rfl⟩
  obtain ⟨rfl, x8, x9, x10, x11, x12, x13, rfl⟩ := I
  have hlen : (rngD 0 most).length = most := by simp [rngD]
  rw [hlen, Nat.zero_add] at e
  have rg := range1 (n := (most : Int)) (by omega) (by omega)
  rw [Int.toNat_natCast] at rg
  have em := law_moves L ow rows S1 (by have := mvs_le T.P; omega)
  have e0 : plK L ow rows ht hn wt wn most 0 none none none none none none = [some (.val (plD L ow rows)), some (.val (mcD "hand" ht hn)), some (.val (mcD "weather" wt wn)), some (.val (.int most)), some (.val (.lst ((mvs rows).map tI3))), some (.val (.tup [.int 0, .int 0, .int 0])), some (.own (.lst [])), some (.own (.lst [])), none, none, none, none, none, none, none, none] := rfl
  rw [e0] at e
  unfold plK at e
  generalize (most : Int) = mm at rg e ⊢
  generalize (mvs rows).map tI3 = MM at *
  generalize plD L ow rows = PP at *
  generalize mcD "hand" ht hn = HH at *
  generalize mcD "weather" wt wn = WW at *
  have s1 : sPar [4, 5, 6, 7] (mVal (eCall F__law_moves (aCons (eV 0) (aNil))) (mVal (eTup (aCons (eC (.int 0)) (aCons (eC (.int 0)) (aCons (eC (.int 0)) (aNil))))) (mNew (nLst (aNil)) (mNew (nLst (aNil)) (mNil))))) [some (.val PP), some (.val HH), some (.val WW), some (.val (.int mm)), none, none, none, none, none, none, none, none, none, none, none, none] S1 =
    .nx [some (.val PP), some (.val HH), some (.val WW), some (.val (.int mm)), some (.val (.lst MM)), some (.val (.tup [.int 0, .int 0, .int 0])), some (.own (.lst [])), some (.own (.lst [])), none, none, none, none, none, none, none, none] S1 := by
    simp [em]
  have s2 : sFor (iRange (aCons (eV 3) (aNil))) (t1__law_play) (b1__law_play) [some (.val PP), some (.val HH), some (.val WW), some (.val (.int mm)), some (.val (.lst MM)), some (.val (.tup [.int 0, .int 0, .int 0])), some (.own (.lst [])), some (.own (.lst [])), none, none, none, none, none, none, none, none] S1 = forL t1__law_play b1__law_play (rngD 0 most) [some (.val PP), some (.val HH), some (.val WW), some (.val (.int mm)), some (.val (.lst MM)), some (.val (.tup [.int 0, .int 0, .int 0])), some (.own (.lst [])), some (.own (.lst [])), none, none, none, none, none, none, none, none] S1 := by
    exact sFor_range (i := 3) rfl rg
  rw [e] at s2
  have s3 : g__law_play [some (.val PP), some (.val HH), some (.val WW), some (.val (.int mm)), none, none, none, none, none, none, none, none, none, none, none, none] S1 = .rt (.tup [lstI (rowK ow rows ht hn wt wn most), .lst ((List.range most).map fun i => tI3 (Orb ow rows ht hn wt wn i))]) S1 := by
    unfold g__law_play
    rw [c_sSeq, s1, seqR_nx, c_sSeq, s2, seqR_nx]
    simp [lstI]
  simp [F__law_play, fnOf, s3]
end
/-! ### data of triples -/
def pT (t : T3) : PyData := .tuple [.int t.1, .int t.2.1, .int t.2.2]
theorem pyS_t (S : Store) (t : T3) : pyS S (tI3 t) = some (pT t) := by simp [tI3, pyS, pySL, pT]
theorem pySL_t (S : Store) : ∀ l : List T3, pySL S (l.map tI3) = some (l.map pT)
  | [] => by simp [pySL]
  | t :: l => by simp [pySL, pyS_t, pySL_t S l]
theorem eqv_t (a b : T3) : PyData.eqv (pT a) (pT b) = decide (a = b) := by
  obtain ⟨a1, a2, a3⟩ := a
  obtain ⟨b1, b2, b3⟩ := b
  simp [pT, PyData.eqv, PyData.eqvAll]
  by_cases h1 : a1 = b1 <;> by_cases h2 : a2 = b2 <;> by_cases h3 : a3 = b3 <;> simp [h1, h2, h3]
theorem lay_t : ∀ l : List T3, PyData.canLayAll0 (l.map pT) = true
  | [] => by simp [PyData.canLayAll0]
  | t :: l => by simp [PyData.canLayAll0, pT, PyData.canLay0, lay_t l]
theorem dep_t : ∀ l : List T3, PyData.depthAll (l.map pT) ≤ 1
  | [] => by simp [PyData.depthAll]
  | t :: l => by
    have := dep_t l
    simp [PyData.depthAll, pT, PyData.depth]
    omega
theorem sh_t (t : T3) : SeqAt.shaped (pT t) = true := by simp [SeqAt.shaped, pT, PyData.canLay0, PyData.canLayAll0, PyData.depth, PyData.depthAll]
theorem sh_ts (l : List T3) : SeqAt.shaped (.list (l.map pT)) = true := by
  have h1 := lay_t l
  have h2 := dep_t l
  simp [SeqAt.shaped, PyData.canLay0, h1, PyData.depth]
  omega
theorem in_t (S : Store) (t : T3) (l : List T3) : oIn S (tI3 t) (.lst (l.map tI3)) = some (.bl (l.any fun z => decide (z = t))) := by
  have e1 := pySL_t S l
  have e2 := pyS_t S t
  have h1 := sh_t t
  have h2 := sh_ts l
  have e3 : pyS S (.lst (l.map tI3)) = some (.list (l.map pT)) := by simp [pyS, e1]
  have e4 : inData S (tI3 t) (.lst (l.map tI3)) = some ((l.map pT).any fun z => PyData.eqv z (pT t)) := by
    show (if flatD (tI3 t) && (l.map tI3).all flatD then some (inV (vOf (tI3 t)) ((l.map tI3).map vOf)) else match pyS S (tI3 t), pyS S (.lst (l.map tI3)) with
      | some p, some (.list qs) => if SeqAt.shaped p && SeqAt.shaped (.list qs) then some (qs.any fun z => PyData.eqv z p) else none
      | _, _ => none) = _
    rw [show flatD (tI3 t) = false from rfl, Bool.false_and, if_neg Bool.false_ne_true, e2, e3]
    simp only [h1, h2, Bool.and_self, if_true]
  unfold oIn
  rw [e4]
  simp [List.any_map, Function.comp_def, eqv_t]
theorem first_t (t : T3) : ∀ (l : List T3) (b j : Nat), l[b]? = some t → (∀ i, i < b → l[i]? ≠ some t) → firstEq (pT t) (l.map pT) j = some (j + b)
  | [], b, j, h, _ => by simp at h
  | x :: l, 0, j, h, _ => by
    simp at h
    subst h
    simp [firstEq, eqv_t]
  | x :: l, b + 1, j, h, n => by
    have hx : x ≠ t := fun z => n 0 (by omega) (by simp [z])
    have ih := first_t t l b (j + 1) (by simpa using h) fun i hi => by
      have := n (i + 1) (by omega)
      simpa using this
    simp only [List.map_cons, firstEq, eqv_t, hx, decide_false, Bool.false_eq_true, if_false]
    rw [ih]
    congr 1
    omega
theorem idx_t (S : Store) (t : T3) (l : List T3) (b : Nat) (h : l[b]? = some t) (n : ∀ i, i < b → l[i]? ≠ some t) : oIdx S (.lst (l.map tI3)) (tI3 t) = some (.int (b : Int)) := by
  have e1 := pySL_t S l
  have e2 := pyS_t S t
  have h1 := sh_t t
  have h2 := sh_ts l
  have e3 : pyS S (.lst (l.map tI3)) = some (.list (l.map pT)) := by simp [pyS, e1]
  have e4 := first_t t l b 0 h n
  unfold oIdx
  rw [e2, e3]
  simp only [h1, h2, Bool.and_self, if_true, e4]
  simp
theorem enumF_drop (f : Nat → T3) (M n : Nat) (h : n < M) : enumF n (((List.range M).drop n).map fun i => tI3 (f i)) = .tup [.int (n : Int), tI3 (f n)] :: enumF (n + 1) (((List.range M).drop (n + 1)).map fun i => tI3 (f i)) := by
  rw [List.drop_eq_getElem_cons (by simpa using h), List.map_cons]
  simp [enumF]
theorem take_rng (f : Nat → T3) (M n : Nat) (h : n ≤ M) : (((List.range M).map fun i => tI3 (f i)).take n) = ((List.range n).map f).map tI3 := by
  rw [← List.map_take, List.take_range, Nat.min_eq_left h, List.map_map]
  rfl
theorem ring_loop (S : Store) {f : Nat → T3} {N b M : Nat} (r : Ring f N b) (hM : N < M) (hM2 : M ≤ 1000000) : ∀ (d n : Nat) (x1 x2 : Option Sl), N - n = d → n ≤ N →
    forL t1__law_ring b1__law_ring (enumF n (((List.range M).drop n).map fun i => tI3 (f i))) [some (.val (.lst ((List.range M).map fun i => tI3 (f i)))), x1, x2, none] S = .rt (.tup [.int (b : Int), .int ((N : Int) - (b : Int))]) S := by
  intro d
  induction d with
  | zero =>
    intro n x1 x2 hd hn
    obtain rfl : n = N := by omega
    rw [enumF_drop f M n hM]
    have c := @cutD_to ((List.range M).map fun i => tI3 (f i)) n
    rw [take_rng f M n (by omega)] at c
    have i1 := in_t S (f n) ((List.range n).map f)
    have any1 : (((List.range n).map f).any fun z => decide (z = f n)) = true := by
      rw [List.any_eq_true]
      exact ⟨f b, List.mem_map.mpr ⟨b, List.mem_range.mpr r.lt, rfl⟩, by simpa using r.eq⟩
    rw [any1] at i1
    have i2 := idx_t S (f n) ((List.range M).map f) b (by rw [List.getElem?_map, List.getElem?_range (by have := r.lt; omega)]; simp [r.eq]) fun i hi e => by
      rw [List.getElem?_map, List.getElem?_range (by have := r.lt; omega)] at e
      simp at e
      exact r.first i hi e
    rw [List.map_map] at i2
    have i2 : oIdx S (.lst ((List.range M).map fun i => tI3 (f i))) (tI3 (f n)) = some (.int (b : Int)) := i2
    generalize hL : (List.range M).map (fun i => tI3 (f i)) = LL at *
    generalize hK : ((List.range n).map f).map tI3 = KK at *
    refine forL_rt (Γ1 := [some (.val (.lst LL)), some (.val (.int (n : Int))), some (.val (tI3 (f n))), none]) (by simp [t1__law_ring]) ?_
    simp only [b1__law_ring]
    generalize (n : Int) = nn at *
    generalize (b : Int) = bb at *
    simp [c, i1, isLs, i2]
  | succ d ih =>
    intro n x1 x2 hd hn
    have hlt : n < N := by omega
    rw [enumF_drop f M n (by omega)]
    have c := @cutD_to ((List.range M).map fun i => tI3 (f i)) n
    rw [take_rng f M n (by omega)] at c
    have i1 := in_t S (f n) ((List.range n).map f)
    have any1 : (((List.range n).map f).any fun z => decide (z = f n)) = false := by
      rw [List.any_eq_false]
      intro z hz
      obtain ⟨i, hi, rfl⟩ := List.mem_map.mp hz
      simpa using r.new n hlt i (List.mem_range.mp hi)
    rw [any1] at i1
    have st : b1__law_ring [some (.val (.lst ((List.range M).map fun i => tI3 (f i)))), some (.val (.int (n : Int))), some (.val (tI3 (f n))), none] S = .nx [some (.val (.lst ((List.range M).map fun i => tI3 (f i)))), some (.val (.int (n : Int))), some (.val (tI3 (f n))), none] S := by
      generalize hL : (List.range M).map (fun i => tI3 (f i)) = LL at *
      generalize hK : ((List.range n).map f).map tI3 = KK at *
      simp only [b1__law_ring]
      generalize (n : Int) = nn at *
      simp [c, i1]
    rw [forL_nx (Γ1 := [some (.val (.lst ((List.range M).map fun i => tI3 (f i)))), some (.val (.int (n : Int))), some (.val (tI3 (f n))), none]) (by simp [t1__law_ring]) st]
    exact ih (n + 1) _ _ (by omega) (by omega)
theorem law_ring (S : Store) {f : Nat → T3} {N b M : Nat} (r : Ring f N b) (hM : N < M) (hM2 : M ≤ 1000000) : F__law_ring [.lst ((List.range M).map fun i => tI3 (f i))] S = .ok (.tup [.int (b : Int), .int ((N : Int) - (b : Int))]) S := by
  have e := ring_loop S r hM hM2 N 0 none none (by omega) (by omega)
  rw [List.drop_zero] at e
  generalize (List.range M).map (fun i => tI3 (f i)) = LL at *
  generalize (N : Int) - (b : Int) = nb at *
  generalize (b : Int) = bb at *
  simp [F__law_ring, fnOf, g__law_ring, enumD_eq, e]
end K76
set_option Elab.async false
set_option linter.all false
set_option maxRecDepth 100000
set_option maxHeartbeats 4000000
namespace K76
open PySem L2 DL
theorem law_late (S : Store) (l : List Int) (b s at_ : Int) (h0 : 0 ≤ at_) (hs : 0 < s) (hb : 0 ≤ b) (hl : b + s ≤ l.length) : F__law_late [.lst (l.map .int), .int b, .int s, .int at_] S = .ok (.int (gI l (if at_ < b then at_ else b + (at_ - b) % s))) S := by
  by_cases h : at_ < b
  · have a := atI_gI (f := D.int) (l := l) h0 (by omega)
    rw [if_pos h]
    simp [F__law_late, fnOf, g__law_late, h, a]
  · have q0 := Int.emod_nonneg (at_ - b) (b := s) (by omega)
    have q1 := Int.emod_lt_of_pos (at_ - b) hs
    have a := atI_gI (f := D.int) (l := l) (i := b + (at_ - b) % s) (by omega) (by omega)
    rw [if_neg h]
    simp [F__law_late, fnOf, g__law_late, h, hs, a]
theorem cutD_midI {ds : List D} {a b : Int} (ha : 0 ≤ a) (hb : 0 ≤ b) : cutD ds (some a) (some b) = (ds.drop a.toNat).take (b.toNat - a.toNat) := by
  have := @cutD_mid ds a.toNat b.toNat
  rwa [show ((a.toNat : Nat) : Int) = a by omega, show ((b.toNat : Nat) : Int) = b by omega] at this
theorem intsOf_mid (l : List Int) (n m : Nat) : intsOf (((l.map D.int).drop n).take m) = some ((l.drop n).take m) := by rw [← List.map_drop, ← List.map_take, intsOf_int]
theorem law_sum (S : Store) (l : List Int) (b s many : Int) (h0 : 0 ≤ many) (hs : 0 < s) (hs2 : s < 1000000) (hb : 0 ≤ b) (hl : b + s ≤ l.length) (h1 : -18446744073709551616 < ((l.drop b.toNat).take s.toNat).sum) (h2 : ((l.drop b.toNat).take s.toNat).sum < 18446744073709551616) :
    F__law_sum [.lst (l.map .int), .int b, .int s, .int many] S = .ok (.int (sumL (l.take b.toNat) ((l.drop b.toNat).take s.toNat) many)) S := by
  have l1 : ((l.take b.toNat).length : Int) = b := by simp; omega
  have l2 : (((l.drop b.toNat).take s.toNat).length : Int) = s := by simp; omega
  by_cases h : many ≤ b
  · have c := @cutD_toI (l.map .int) many h0
    have i1 := intsOf_take l many.toNat
    have e : sumL (l.take b.toNat) ((l.drop b.toNat).take s.toNat) many = (l.take many.toNat).sum := by
      unfold sumL
      rw [if_pos (by omega), List.take_take, Nat.min_eq_left (by omega)]
    rw [e]
    simp [F__law_sum, fnOf, g__law_sum, h, c, i1]
  · have q0 := Int.emod_nonneg (many - b) (b := s) (by omega)
    have q1 := Int.emod_lt_of_pos (many - b) hs
    have c1 := @cutD_toI (l.map .int) b hb
    have c2 := @cutD_midI (l.map .int) b (b + s) hb (by omega)
    have c3 := @cutD_midI (l.map .int) b (b + (many - b) % s) hb (by omega)
    have i1 := intsOf_take l b.toNat
    have i2 := intsOf_mid l b.toNat ((b + s).toNat - b.toNat)
    have i3 := intsOf_mid l b.toNat ((b + (many - b) % s).toNat - b.toNat)
    rw [show (b + s).toNat - b.toNat = s.toNat by omega] at c2 i2
    rw [show (b + (many - b) % s).toNat - b.toNat = ((many - b) % s).toNat by omega] at c3 i3
    have d1 : divOk (many - b) s = true := divOk_of hs (by omega)
    have m1 : mulOk ((many - b) / s) ((l.drop b.toNat).take s.toNat).sum = true := mulOk_small h1 h2
    have e : sumL (l.take b.toNat) ((l.drop b.toNat).take s.toNat) many = (l.take b.toNat).sum + (many - b) / s * ((l.drop b.toNat).take s.toNat).sum + ((l.drop b.toNat).take ((many - b) % s).toNat).sum := by
      unfold sumL
      rw [if_neg (by omega), l1, l2, List.take_take, Nat.min_eq_left (by omega)]
    rw [e]
    generalize (l.drop b.toNat).take s.toNat = X at *
    generalize (l.drop b.toNat).take ((many - b) % s).toNat = Y at *
    generalize l.take b.toNat = Z at *
    generalize ((l.map D.int).drop b.toNat).take s.toNat = X2 at *
    generalize ((l.map D.int).drop b.toNat).take ((many - b) % s).toNat = Y2 at *
    generalize (l.map D.int).take b.toNat = Z2 at *
    simp [F__law_sum, fnOf, g__law_sum, h, hs, d1, m1, c1, c2, c3, i1, i2, i3]
theorem law_pick {S R : Store} (hp : Pot S R) (l : List Int) (hl : 1 ≤ l.length) (hl2 : l.length ≤ 1000) : ∃ x S', F__law_pick [.loc 0, .lst (l.map .int)] S = .ok (.int x) S' ∧ Pot S' R ∧ x ∈ l := by
  obtain ⟨d, S1, e1, hp1, d0, d1⟩ := draw hp (m := (l.length : Int)) (by omega) (by omega)
  have a := atI_gI (f := D.int) (l := l) d0 d1
  refine ⟨gI l d, S1, ?_, hp1, gI_mem d0 d1⟩
  simp [F__law_pick, fnOf, g__law_pick, e1, a]
theorem powOk_n : powOk 10 30 = true ∧ powOk 10 29 = true ∧ powOk 10 6 = true ∧ powOk 10 9 = true := by decide
theorem law_great {S R : Store} (hp : Pot S R) : ∃ x S', F__law_great [.loc 0] S = .ok (.int x) S' ∧ Pot S' R ∧ 0 ≤ x ∧ x ≤ 1000000000000000000000000000000 := by
  obtain ⟨a, S1, e1, hp1, a0, a1⟩ := draw hp (m := 1000000) (by omega) (by omega)
  obtain ⟨c, S2, e2, hp2, c0, c1⟩ := draw hp1 (m := 1000000000) (by omega) (by omega)
  obtain ⟨x, S3, e3, hp3, hx⟩ := law_pick hp2 [1000000000000000000000000000000, 999999999999999999999999999999, 1000000000000000000 + a, 100000000000000000000000000007, c, 400, 1, 0] (by simp) (by simp)
  have p1 := powOk_18
  obtain ⟨p2, p3, p4, p5⟩ := powOk_n
  simp only [List.map_cons, List.map_nil] at e3
  refine ⟨x, S3, ?_, hp3, ?_⟩
  · simp [F__law_great, fnOf, g__law_great, p1, p2, p3, p4, p5, e1, e2, e3]
  · simp at hx
    omega
end K76
set_option Elab.async false
set_option linter.all false
set_option maxRecDepth 100000
set_option maxHeartbeats 4000000
namespace K76
open PySem L2 DL
/-! ### what may be shown -/
mutual
/-- ints of at most 31 digits, short texts -/
def okP : PyData → Prop
  | .none => True
  | .bool _ => True
  | .int i => i.natAbs < 10 ^ 31
  | .str x => (∀ c ∈ x.cps.toList, c < 1000) ∧ x.cps.size ≤ 20
  | .list xs => okPs xs
  | .tuple xs => okPs xs
  | .dict _ => False
def okPs : List PyData → Prop
  | [] => True
  | x :: xs => okP x ∧ okPs xs
end
mutual
def cnt : PyData → Nat
  | .list xs => cnts xs + 1
  | .tuple xs => cnts xs + 1
  | _ => 1
def cnts : List PyData → Nat
  | [] => 0
  | x :: xs => cnt x + cnts xs
end
theorem log_small {n : Nat} (h : n < 10 ^ 31) : n.log2 < 105 := by
  by_cases h0 : n = 0
  · subst h0; decide
  · have e : (10 : Nat) ^ 31 < 2 ^ 105 := by decide
    exact (Nat.log2_lt h0).mpr (by omega)
mutual
theorem okP_facts : ∀ p : PyData, okP p → p.showable = true ∧ p.leavesShort 40 = true ∧ p.weight + 1 ≤ 107 * cnt p
  | .none, _ => by simp [PyData.showable, PyData.leavesShort, PyData.weight, cnt]
  | .bool _, _ => by simp [PyData.showable, PyData.leavesShort, PyData.weight, cnt]
  | .int i, h => by
    simp only [okP] at h
    have l := log_small h
    refine ⟨?_, ?_, ?_⟩
    · simp only [PyData.showable, decide_eq_true_eq]; omega
    · simp only [PyData.leavesShort, decide_eq_true_eq]
      have e := int_text_length_le10 (a := i) (k := 31) (by omega) h
      have e2 : (PyData.shown (.int i)).length = (toString i : String).length := by
        show (Str.ofString (toString i)).length = _
        exact ofString_length _
      omega
    · simp only [PyData.weight, cnt]
      split <;> omega
  | .str x, h => by
    simp only [okP] at h
    refine ⟨by simp only [PyData.showable], ?_, ?_⟩
    · simp only [PyData.leavesShort, List.all_eq_true, decide_eq_true_eq]
      intro c hc
      have := h.1 c hc
      have e : (16 : Nat) ^ 8 = 4294967296 := by decide
      omega
    · simp only [PyData.weight, cnt]; omega
  | .list xs, h => by
    simp only [okP] at h
    obtain ⟨h1, h2, h3⟩ := okPs_facts xs h
    refine ⟨by simp only [PyData.showable]; exact h1, by simp only [PyData.leavesShort]; exact h2, ?_⟩
    simp only [PyData.weight, cnt]; omega
  | .tuple xs, h => by
    simp only [okP] at h
    obtain ⟨h1, h2, h3⟩ := okPs_facts xs h
    refine ⟨by simp only [PyData.showable]; exact h1, by simp only [PyData.leavesShort]; exact h2, ?_⟩
    simp only [PyData.weight, cnt]; omega
  | .dict _, h => by simp only [okP] at h
theorem okPs_facts : ∀ ps : List PyData, okPs ps → PyData.showableAll ps = true ∧ PyData.leavesShortAll 40 ps = true ∧ PyData.weightAll ps ≤ 107 * cnts ps
  | [], _ => by simp [PyData.showableAll, PyData.leavesShortAll, PyData.weightAll, cnts]
  | p :: ps, h => by
    simp only [okPs] at h
    obtain ⟨a1, a2, a3⟩ := okP_facts p h.1
    obtain ⟨b1, b2, b3⟩ := okPs_facts ps h.2
    refine ⟨by simp only [PyData.showableAll, a1, b1, Bool.and_self], by simp only [PyData.leavesShortAll, a2, b2, Bool.and_self], ?_⟩
    simp only [PyData.weightAll, cnts, List.length_cons]
    omega
end
theorem shown_okP {p : PyData} (h : okP p) (hc : cnt p ≤ 3000) : p.shown.length ≤ 16777216 := by
  obtain ⟨_, h2, h3⟩ := okP_facts p h
  have e := PyData.shown_le 40 (by omega) p h2
  omega
theorem reprOk_of {p : PyData} (h : okP p) (hd : p.depth ≤ 60) (hc : cnt p ≤ 3000) : reprOk p = true := by
  have h1 := (okP_facts p h).1
  have h2 := shown_okP h hc
  unfold reprOk
  rw [h1, sz_eq, decide_eq_true hd, decide_eq_true h2]
  rfl
theorem repr_of (S : Store) (d : D) (p : PyData) (hr : isRefD d = true) (e : pyS S d = some p) (h : okP p) (hd : p.depth ≤ 60) (hc : cnt p ≤ 3000) : bRepr S [d] = some (.str p.shown) := by
  show (if isRefD d then match pyS S d with
    | some p => if reprOk p then some (D.str p.shown) else none
    | none => none else none) = _
  rw [hr, if_pos rfl, e]
  simp only [reprOk_of h hd hc, if_true]
/-! lists of ints -/
def iP (l : List Int) : List PyData := l.map .int
theorem pySL_i (S : Store) : ∀ l : List Int, pySL S (l.map .int) = some (iP l)
  | [] => by simp [pySL, iP]
  | t :: l => by
    have := pySL_i S l
    simp only [iP] at this ⊢
    simp [pySL, pyS, this]
theorem pyDL_i : ∀ l : List Int, pyDL (l.map .int) = some (iP l)
  | [] => by simp [pyDL, iP]
  | t :: l => by
    have := pyDL_i l
    simp only [iP] at this ⊢
    simp [pyDL, pyD, this]
theorem okPs_i : ∀ l : List Int, (∀ x ∈ l, x.natAbs < 10 ^ 31) → okPs (iP l) ∧ cnts (iP l) = l.length ∧ PyData.depthAll (iP l) = 0
  | [], _ => by simp [iP, okPs, cnts, PyData.depthAll]
  | t :: l, h => by
    obtain ⟨a, b, c⟩ := okPs_i l fun x hx => h x (by simp [hx])
    simp only [iP] at a b c ⊢
    simp [okPs, okP, cnts, cnt, PyData.depthAll, PyData.depth, a, b, c, h t (by simp)]
    omega
end K76
set_option Elab.async false
set_option linter.all false
set_option maxRecDepth 100000
set_option maxHeartbeats 4000000
namespace K76
open PySem L2 DL
theorem pySL_map {α : Type} (S : Store) (f : α → D) (g : α → PyData) : ∀ l : List α, (∀ x ∈ l, pyS S (f x) = some (g x)) → pySL S (l.map f) = some (l.map g)
  | [], _ => by simp [pySL]
  | x :: l, h => by
    have h1 := h x (by simp)
    have h2 := pySL_map S f g l fun y hy => h y (by simp [hy])
    simp [pySL, h1, h2]
theorem okPs_map {α : Type} (g : α → PyData) (c d : Nat) : ∀ l : List α, (∀ x ∈ l, okP (g x) ∧ cnt (g x) ≤ c ∧ (g x).depth ≤ d) → okPs (l.map g) ∧ cnts (l.map g) ≤ c * l.length ∧ PyData.depthAll (l.map g) ≤ d
  | [], _ => by simp [okPs, cnts, PyData.depthAll]
  | x :: l, h => by
    obtain ⟨a1, a2, a3⟩ := h x (by simp)
    obtain ⟨b1, b2, b3⟩ := okPs_map g c d l fun y hy => h y (by simp [hy])
    simp only [List.map_cons, okPs, cnts, PyData.depthAll, List.length_cons]
    refine ⟨⟨a1, b1⟩, ?_, ?_⟩
    · rw [Nat.mul_add]; omega
    · omega
def mvP (m : Mv) : PyData := .tuple [.int m.1, .int m.2]
def rowP (r : List Mv) : PyData := .tuple (r.map mvP)
def plP (L : Int) (ow : List Int) (rows : List (List Mv)) : PyData := .tuple [.str "plant", .int L, .tuple (iP ow), .tuple (rows.map rowP)]
def opP : Option Int → PyData
  | none => .none
  | some i => .int i
def tkP (t : List (Option Int)) : PyData := .tuple (t.map opP)
def nxP (l : List Int) : PyData := .tuple (iP l)
def mcP (w : PySem.Str) (tk : List (List (Option Int))) (nx : List (List Int)) : PyData := .tuple [.str w, .tuple (tk.map tkP), .tuple (nx.map nxP)]
theorem pyS_row (S : Store) (r : List Mv) : pyS S (rowD r) = some (rowP r) := by
  have := pySL_map S tI2 mvP r fun m _ => by simp [tI2, mvP, pyS, pySL]
  simp [rowD, rowP, pyS, this]
theorem pyS_pl (S : Store) (L : Int) (ow : List Int) (rows : List (List Mv)) : pyS S (plD L ow rows) = some (plP L ow rows) := by
  have h1 := pySL_i S ow
  have h2 := pySL_map S rowD rowP rows fun r _ => pyS_row S r
  simp [plD, plP, pyS, pySL, h1, h2]
theorem pyS_tk (S : Store) (t : List (Option Int)) : pyS S (tkD t) = some (tkP t) := by
  have := pySL_map S opD opP t fun m _ => by cases m <;> simp [opD, opP, pyS]
  simp [tkD, tkP, pyS, this]
theorem pyS_nx (S : Store) (t : List Int) : pyS S (nxD t) = some (nxP t) := by
  have := pySL_i S t
  simp [nxD, nxP, pyS, this]
theorem pyS_mc (S : Store) (w : PySem.Str) (tk : List (List (Option Int))) (nx : List (List Int)) : pyS S (mcD w tk nx) = some (mcP w tk nx) := by
  have h1 := pySL_map S tkD tkP tk fun r _ => pyS_tk S r
  have h2 := pySL_map S nxD nxP nx fun r _ => pyS_nx S r
  simp [mcD, mcP, pyS, pySL, h1, h2]
theorem small_abs {i : Int} {B : Nat} (h0 : 0 ≤ i) (h1 : i < B) (hB : B ≤ 10 ^ 31) : i.natAbs < 10 ^ 31 := by omega
theorem okP_pl {L : Int} {ow : List Int} {rows : List (List Mv)} (P : PlOk L ow rows) (h6 : rows.length ≤ 6) (h3 : ∀ r ∈ rows, r.length ≤ 3) : okP (plP L ow rows) ∧ cnt (plP L ow rows) ≤ 80 ∧ (plP L ow rows).depth ≤ 4 := by
  have e31 : (10 : Nat) ^ 31 = 10000000000000000000000000000000 := by decide
  have a := okPs_i ow fun x hx => by have := P.own x hx; rw [e31]; omega
  have b := okPs_map rowP 10 2 rows fun r hr => by
    have c := okPs_map mvP 3 1 r fun m hm => by
      have := P.mv r hr m hm
      have h4 := P.l4
      have h24 := P.n24
      simp only [mvP, okP, okPs, cnt, cnts, PyData.depth, PyData.depthAll]
      rw [e31]
      refine ⟨⟨by omega, by omega, trivial⟩, by omega, by omega⟩
    have := h3 r hr
    simp only [rowP, okP, cnt, PyData.depth]
    refine ⟨c.1, by omega, by omega⟩
  have hl := P.len
  have h1 := P.l1
  have h4 := P.l4
  have st : (∀ c ∈ ("plant" : PySem.Str).cps.toList, c < 1000) ∧ ("plant" : PySem.Str).cps.size ≤ 20 := by decide
  simp only [plP, okP, okPs, cnt, cnts, PyData.depth, PyData.depthAll]
  refine ⟨⟨st, by rw [e31]; omega, a.1, b.1, trivial⟩, ?_, ?_⟩
  · have := a.2.1; have := b.2.1; omega
  · have := a.2.2; have := b.2.2; omega
theorem okP_mc {ow : List Int} {rows : List (List Mv)} {side : Int} {most : Nat} {w : PySem.Str} {tk : List (List (Option Int))} {nx : List (List Int)} {L : Int} (P : PlOk L ow rows) (M : MOk ow rows side most tk nx) (h12 : tk.length ≤ 12) (h6 : rows.length ≤ 6) (hmv : (mvs rows).length ≤ 18)
    (st : (∀ c ∈ w.cps.toList, c < 1000) ∧ w.cps.size ≤ 20) : okP (mcP w tk nx) ∧ cnt (mcP w tk nx) ≤ 400 ∧ (mcP w tk nx).depth ≤ 3 := by
  have e31 : (10 : Nat) ^ 31 = 10000000000000000000000000000000 := by decide
  have hl := P.len
  have a := okPs_map tkP 7 1 tk fun t ht => by
    have tl := M.tl t ht
    have c := okPs_map opP 1 0 t fun v hv => by
      obtain ⟨j, hj⟩ := List.mem_iff_getElem?.mp hv
      have hjl := (List.getElem?_eq_some_iff.mp hj).1
      have ho : ow[j]? = some ow[j] := List.getElem?_eq_getElem (by omega)
      have hr : rows[j]? = some rows[j] := List.getElem?_eq_getElem (by omega)
      obtain ⟨f1, f2⟩ := M.tv t ht j _ _ _ ho hj hr
      by_cases hs : ow[j] = side
      · obtain ⟨k, rfl, k0, k1⟩ := f2 hs
        have := (P.row _ (List.mem_of_getElem? hr)).2
        simp only [opP, okP, cnt, PyData.depth]
        refine ⟨by rw [e31]; omega, Nat.le_refl _, Nat.le_refl _⟩
      · rw [f1 hs]
        simp [opP, okP, cnt, PyData.depth]
    simp only [tkP, okP, cnt, PyData.depth]
    refine ⟨c.1, by omega, by omega⟩
  have b := okPs_map nxP 19 1 nx fun n hn => by
    have nl := M.nl n hn
    have c := okPs_i n fun x hx => by have := M.nv n hn x hx; rw [e31]; omega
    simp only [nxP, okP, cnt, PyData.depth]
    refine ⟨c.1, by omega, by omega⟩
  have hn := M.len
  simp only [mcP, okP, okPs, cnt, cnts, PyData.depth, PyData.depthAll]
  refine ⟨⟨st, a.1, b.1, trivial⟩, ?_, ?_⟩
  · have := a.2.1; have := b.2.1; omega
  · have := a.2.2; have := b.2.2; omega
end K76
set_option Elab.async false
set_option linter.all false
set_option maxRecDepth 100000
set_option maxHeartbeats 4000000
namespace K76
open PySem L2 DL
/-! ### the ring is found -/
theorem nodup_lt : ∀ (K : Nat) (l : List Nat), l.Nodup → (∀ x ∈ l, x < K) → l.length ≤ K
  | 0, l, _, h => by
    cases l with
    | nil => simp
    | cons a l => exact absurd (h a (by simp)) (by omega)
  | K + 1, l, nd, h => by
    have ih := nodup_lt K (l.erase K) (nd.erase K) fun x hx => by
      have h1 := nd.mem_erase_iff.mp hx
      have h2 := h x h1.2
      have h3 := h1.1
      omega
    rw [List.length_erase] at ih
    split at ih <;> omega
theorem ring_or (f : Nat → T3) : ∀ n : Nat, (∀ k, k < n → ∀ i, i < k → f i ≠ f k) ∨ ∃ N b, N < n ∧ Ring f N b
  | 0 => Or.inl fun k hk => by omega
  | n + 1 => by
    rcases ring_or f n with h | ⟨N, b, h1, h2⟩
    · by_cases e : ∃ b, b < n ∧ f b = f n
      · obtain ⟨b, h1, h2⟩ := e
        exact Or.inr ⟨n, b, by omega, h1, h2, h⟩
      · refine Or.inl fun k hk i hi z => ?_
        by_cases hkn : k = n
        · subst hkn
          exact e ⟨i, hi, z⟩
        · exact h k (by omega) i hi z
    · exact Or.inr ⟨N, b, by omega, h2⟩
theorem ring_of (f : Nat → T3) (enc : T3 → Nat) (K : Nat) (h : ∀ n, enc (f n) < K) : ∃ N b, N ≤ K ∧ Ring f N b ∨ False ∨ ¬ (∀ i j, enc (f i) = enc (f j) → f i = f j) := by
  by_cases inj : ∀ i j, enc (f i) = enc (f j) → f i = f j
  · rcases ring_or f (K + 1) with g | ⟨N, b, h1, h2⟩
    · exfalso
      have nd : ((List.range (K + 1)).map fun i => enc (f i)).Nodup := by
        refine List.pairwise_iff_getElem.mpr fun i j hi hj hij => ?_
        simp at hi hj
        simp only [List.getElem_map, List.getElem_range]
        intro e
        exact g j (by omega) i hij (inj i j e)
      have := nodup_lt K _ nd fun x hx => by
        obtain ⟨i, _, rfl⟩ := List.mem_map.mp hx
        exact h i
      simp at this
      omega
    · exact ⟨N, b, Or.inl ⟨by omega, h2⟩⟩
  · exact ⟨0, 0, Or.inr (Or.inr inj)⟩
theorem orb_shift {f : T3 → T3} {a b : Nat} (h : orb f a = orb f b) : ∀ k, orb f (a + k) = orb f (b + k)
  | 0 => h
  | k + 1 => congrArg f (orb_shift h k)
theorem orb_mod {f : T3 → T3} {N b : Nat} (hb : b < N) (h : orb f b = orb f N) : ∀ k, orb f (b + k % (N - b)) = orb f (b + k) := by
  intro k
  induction k using Nat.strongRecOn with
  | _ k ih =>
    by_cases hk : k < N - b
    · rw [Nat.mod_eq_of_lt hk]
    · have e1 := ih (k - (N - b)) (by omega)
      have e2 := orb_shift h (k - (N - b))
      rw [Nat.mod_eq_sub_mod (by omega), e1, e2]
      congr 1
      omega
theorem orb_late {f : T3 → T3} {N b : Nat} (hb : b < N) (h : orb f b = orb f N) {m : Int} (h0 : 0 ≤ m) : orb f (lateI b (N - b) m).toNat = orb f m.toNat := by
  unfold lateI
  split
  · rfl
  · have e := orb_mod hb h (m.toNat - b)
    have e1 : ((b : Int) + (m - (b : Int)) % ((N - b : Nat) : Int)).toNat = b + (m.toNat - b) % (N - b) := by
      have q : (m - (b : Int)) = ((m.toNat - b : Nat) : Int) := by omega
      rw [q, ← Int.natCast_emod]
      omega
    rw [e1, e]
    congr 1
    omega
/-! ### sums along -/
def sig (g : Nat → Int) (n : Nat) : Int := ((List.range n).map g).sum
theorem sig_succ (g : Nat → Int) (n : Nat) : sig g (n + 1) = sig g n + g n := by simp [sig, List.range_succ]
theorem sig_add (g : Nat → Int) (a : Nat) : ∀ n, sig g (a + n) = sig g a + sig (fun i => g (a + i)) n
  | 0 => by simp [sig]
  | n + 1 => by rw [← Nat.add_assoc, sig_succ, sig_succ, sig_add g a n]; omega
theorem sig_per {g : Nat → Int} {s : Nat} (hs : 0 < s) (h : ∀ k, g (k + s) = g k) : ∀ k, sig g k = ((k / s : Nat) : Int) * sig g s + sig g (k % s) := by
  intro k
  induction k using Nat.strongRecOn with
  | _ k ih =>
    by_cases hk : k < s
    · rw [Nat.div_eq_of_lt hk, Nat.mod_eq_of_lt hk]; simp
    · have e1 := ih (k - s) (by omega)
      have e2 := sig_add g s (k - s)
      rw [show s + (k - s) = k by omega] at e2
      have e3 : (fun i => g (s + i)) = g := by
        funext i
        rw [Nat.add_comm]
        exact h i
      rw [e3, e1] at e2
      rw [e2, Nat.mod_eq_sub_mod (show k ≥ s by omega), Nat.div_eq_sub_div (a := k) hs (by omega), Int.natCast_add, Int.add_mul]
      simp only [Int.natCast_one, Int.one_mul]
      omega
theorem take_sig (g : Nat → Int) (n m : Nat) (h : m ≤ n) : (((List.range n).map g).take m).sum = sig g m := by
  rw [← List.map_take, List.take_range, Nat.min_eq_left h]
  rfl
theorem drop_rng (g : Nat → Int) (n b : Nat) : ((List.range n).map g).drop b = (List.range (n - b)).map fun i => g (b + i) := by
  apply List.ext_getElem?
  intro i
  rw [List.getElem?_drop, List.getElem?_map, List.getElem?_map]
  by_cases h : i < n - b
  · rw [List.getElem?_range h, List.getElem?_range (by omega)]
    rfl
  · rw [List.getElem?_eq_none (by simp; omega), List.getElem?_eq_none (by simp; omega)]
    rfl
theorem sumL_sig {g : Nat → Int} {N b : Nat} (hb : b < N) (h : ∀ k, g (b + (k + (N - b))) = g (b + k)) {m : Int} (h0 : 0 ≤ m) : sumL (((List.range N).map g).take b) (((List.range N).map g).drop b) m = sig g m.toNat := by
  rw [drop_rng]
  unfold sumL
  have l1 : (((List.range N).map g).take b).length = b := by simp; omega
  have l2 : ((List.range (N - b)).map fun i => g (b + i)).length = N - b := by simp
  rw [l1, l2]
  by_cases hm : m ≤ b
  · rw [if_pos hm, List.take_take, Nat.min_eq_left (by omega), take_sig g N _ (by omega)]
  · have p := sig_per (g := fun i => g (b + i)) (s := N - b) (by omega) h (m.toNat - b)
    have a := sig_add g b (m.toNat - b)
    rw [show b + (m.toNat - b) = m.toNat by omega, p] at a
    have q : (m - (b : Int)) = ((m.toNat - b : Nat) : Int) := by omega
    rw [if_neg hm, take_sig g N b (by omega), q, ← Int.natCast_ediv, ← Int.natCast_emod, Int.toNat_natCast, take_sig _ _ _ (by have := Nat.mod_lt (m.toNat - b) (show 0 < N - b by omega); omega), a]
    unfold sig
    omega
end K76
set_option Elab.async false
set_option linter.all false
set_option maxRecDepth 100000
set_option maxHeartbeats 4000000
namespace K76
open PySem L2 DL
/-! ### the course, published -/
section
variable {L : Int} {ow : List Int} {rows : List (List Mv)} {ht : List (List (Option Int))} {hn : List (List Int)} {wt : List (List (Option Int))} {wn : List (List Int)}
theorem course_of_p (S : Store) (T : Tri L ow rows ht hn wt wn) {N b : Nat} (hN : N ≤ 2400) (r : Ring (Orb ow rows ht hn wt wn) N b) :
    F_course_of_p [plD L ow rows, mcD "hand" ht hn, mcD "weather" wt wn] S = .ok (.tup [.loc S.length, .loc (S.length + 1)]) (S ++ [.lst (((rowK ow rows ht hn wt wn N).take b).map .int), .lst (((rowK ow rows ht hn wt wn N).drop b).map .int)]) := by
  obtain ⟨x', e⟩ := course_loop S T N b hN r.lt r.eq r.first r.new 0 2410 none (Nat.zero_le _) (by omega) (Nat.zero_le _)
  have e1 := moves_of L ow rows S (by have := mvs_le T.P; omega)
  have e2 := numbers_of S T.P
  have e3 : dAt (.dT (metK (Orb ow rows ht hn wt wn) N)) (tI3 (Orb ow rows ht hn wt wn N)) = some (some (.int (b : Int))) := by
    have := valD_some b N r.lt r.eq r.first
    show some (valD (metK (Orb ow rows ht hn wt wn) N) (keyT (Orb ow rows ht hn wt wn N))) = _
    rw [this]
  have e4 := @cutD_to ((rowK ow rows ht hn wt wn N).map .int) b
  have e5 := @cutD_from ((rowK ow rows ht hn wt wn N).map .int) b
  have e0 : stK L ow rows ht hn wt wn 0 none = [some (.val (plD L ow rows)), some (.val (mcD "hand" ht hn)), some (.val (mcD "weather" wt wn)), some (.val (.lst ((mvs rows).map tI3))), some (.val (.lst ((nums rows).map lstI))), some (.val (.tup [.int 0, .int 0, .int 0])), some (.own (.dT [])), some (.own (.lst [])), none] := rfl
  have w1 : wc1_course_of_p = wc1_course_of := rfl
  have w2 : wb1_course_of_p = wb1_course_of := rfl
  rw [e0] at e
  unfold stK at e
  simp [F_course_of_p, fnOf, g_course_of_p, e1, e2, sWhile, w1, w2, e, e3, e4, e5]
theorem course_p (S : Store) (T : Tri L ow rows ht hn wt wn) {N b : Nat} (hN : N ≤ 2400) (r : Ring (Orb ow rows ht hn wt wn) N b) :
    F_course_p [plD L ow rows, mcD "hand" ht hn, mcD "weather" wt wn] S = .ok (.tup [.loc S.length, .loc (S.length + 1)]) (S ++ [.lst (((rowK ow rows ht hn wt wn N).take b).map .int), .lst (((rowK ow rows ht hn wt wn N).drop b).map .int)]) := by
  simp [F_course_p, fnOf, g_course_p, want_machines S T, course_of_p S T hN r]
/-! ### one turn -/
def plc (ow : List Int) (rows : List (List Mv)) (ht : List (List (Option Int))) (hn : List (List Int)) (wt : List (List (Option Int))) (wn : List (List Int)) (i : Nat) : Int := (Orb ow rows ht hn wt wn i).1
def ltr (ow : List Int) (rows : List (List Mv)) (ht : List (List (Option Int))) (hn : List (List Int)) (wt : List (List (Option Int))) (wn : List (List Int)) (i : Nat) : Int := (gI (mvs rows) (num ow rows ht wt (Orb ow rows ht hn wt wn i))).2.1
theorem gI_rng {g : Nat → Int} {n : Nat} {i : Int} (h0 : 0 ≤ i) (h : i < n) : gI ((List.range n).map g) i = g i.toNat := by
  unfold gI
  rw [List.getD_eq_getElem?_getD, List.getElem?_map, List.getElem?_range (by omega)]
  rfl
theorem take_rngI (g : Nat → Int) {N b : Nat} (h : b ≤ N) : ((List.range N).map g).take b = (List.range b).map g := by
  rw [← List.map_take, List.take_range, Nat.min_eq_left h]
theorem sig01 {g : Nat → Int} (h : ∀ i, g i = 0 ∨ g i = 1) : ∀ n, 0 ≤ sig g n ∧ sig g n ≤ n
  | 0 => by simp [sig]
  | n + 1 => by
    have := sig01 h n
    have := h n
    rw [sig_succ]
    omega
theorem cnt_sig (l : Nat → Int) (x : Int) : ∀ n, ((((List.range n).map l).count x : Nat) : Int) = sig (fun i => if l i = x then 1 else 0) n
  | 0 => by simp [sig]
  | n + 1 => by
    rw [sig_succ, ← cnt_sig l x n, List.range_succ, List.map_append, List.count_append]
    by_cases h : l n = x <;> simp [h]
theorem late_rng {g : Nat → Int} {N b M : Nat} (hb : b < N) (hM : N ≤ M) {m : Int} (h0 : 0 ≤ m) (hg : g (lateI b (N - b) m).toNat = g m.toNat) :
    gI ((List.range M).map g) (if m < b then m else b + (m - b) % ((N : Int) - (b : Int))) = g m.toNat := by
  obtain ⟨q0, q1⟩ := late_ok (b := b) (s := N - b) h0 (by omega)
  have e : (if m < b then m else b + (m - b) % ((N : Int) - (b : Int))) = lateI b (N - b) m := by
    unfold lateI
    rw [show (N : Int) - (b : Int) = ((N - b : Nat) : Int) by omega]
  rw [e, gI_rng q0 (by omega), hg]
end
end K76
set_option Elab.async false
set_option linter.all false
set_option maxRecDepth 100000
set_option maxHeartbeats 4000000
namespace K76
open PySem L2 DL
theorem eqv_i : ∀ l : List Int, PyData.eqvAll (iP l) (iP l) = true
  | [] => by simp [iP, PyData.eqvAll]
  | t :: l => by
    have := eqv_i l
    simp only [iP] at this ⊢
    simp [PyData.eqvAll, PyData.eqv, this]
theorem lay_i : ∀ l : List Int, PyData.canLayAll0 (iP l) = true
  | [] => by simp [iP, PyData.canLayAll0]
  | t :: l => by
    have := lay_i l
    simp only [iP] at this ⊢
    simp [PyData.canLayAll0, PyData.canLay0, this]
theorem dep_i : ∀ l : List Int, PyData.depthAll (iP l) = 0
  | [] => by simp [iP, PyData.depthAll]
  | t :: l => by
    have := dep_i l
    simp only [iP] at this ⊢
    simp [PyData.depthAll, PyData.depth, this]
theorem ne_same (S : Store) (l : List Int) : oNe S (.lst (l.map .int)) (.lst (l.map .int)) = some (.bl false) := by
  have e := pySL_i S l
  have e3 : pyS S (.lst (l.map .int)) = some (.list (iP l)) := by simp [pyS, e]
  have sh : SeqAt.shaped (.list (iP l)) = true := by simp [SeqAt.shaped, PyData.canLay0, lay_i, PyData.depth, dep_i]
  have e4 : eqData S (.lst (l.map .int)) (.lst (l.map .int)) = some true := by
    show (match pyS S (.lst (l.map .int)), pyS S (.lst (l.map .int)) with
      | some p, some q => if SeqAt.shaped p && SeqAt.shaped q then some (PyData.eqv p q) else none
      | _, _ => none) = _
    rw [e3]
    simp [sh, PyData.eqv, eqv_i]
  unfold oNe
  rw [e4]
  rfl
theorem repr_own (S : Store) (a c d : Int) (ha : a.natAbs < 10 ^ 31) (hc : c.natAbs < 10 ^ 31) (hd : d.natAbs < 10 ^ 31) : ∃ s, bRepr S [.lst [.lst [.int a, .int c, .int d], .lst [.int a, .int c, .int d]]] = some (.str s) :=
  ⟨_, repr_of S _ (.list [.list [.int a, .int c, .int d], .list [.int a, .int c, .int d]]) rfl (by simp [pyS, pySL]) (by simp only [okP, okPs]; exact ⟨⟨ha, hc, hd, trivial⟩, ⟨ha, hc, hd, trivial⟩, trivial⟩) (by simp [PyData.depth, PyData.depthAll]) (by simp [cnt, cnts])⟩
section
variable {L : Int} {ow : List Int} {rows : List (List Mv)} {ht : List (List (Option Int))} {hn : List (List Int)} {wt : List (List (Option Int))} {wn : List (List Int)}
/-- the slots of a turn -/
def tuK (L : Int) (ow : List Int) (rows : List (List Mv)) (ht : List (List (Option Int))) (hn : List (List Int)) (wt : List (List (Option Int))) (wn : List (List Int)) (N b : Nat) (y5 y6 y9 y10 y11 y12 x15 x16 x17 x18 x19 x20 x21 : Option Sl) : Gm :=
  [some (.val (.loc 0)), some (.val (plD L ow rows)), some (.val (mcD "hand" ht hn)), some (.val (mcD "weather" wt wn)), some (.val (.int 578)), y5, y6, some (.val (.int (b : Int))), some (.val (.int ((N : Int) - (b : Int)))), y9, y10, y11, y12,
    some (.val (.lst (((List.range 578).map (ltr ow rows ht hn wt wn)).map .int))), some (.val (.lst (((List.range 578).map (plc ow rows ht hn wt wn)).map .int))), x15, x16, x17, x18, x19, x20, x21, none, none, none]
theorem turn_step (T : Tri L ow rows ht hn wt wn) {N b : Nat} (hN : N ≤ 577) (r : Ring (Orb ow rows ht hn wt wn) N b) {S R : Store} (hp : Pot S R) (y5 y6 y9 y10 y11 y12 x16 x17 x18 x19 x20 x21 : Option Sl) (i : Int) (hL : 1 ≤ L) (hL4 : L ≤ 4) :
    ∃ x16' x17' x18' x19' x20' x21' S', b1__law_course_right (tuK L ow rows ht hn wt wn N b y5 y6 y9 y10 y11 y12 (some (.val (.int i))) x16 x17 x18 x19 x20 x21) S = .nx (tuK L ow rows ht hn wt wn N b y5 y6 y9 y10 y11 y12 (some (.val (.int i))) x16' x17' x18' x19' x20' x21') S' ∧ Pot S' R := by
  -- the draw
  have dr : ∃ m S1, ((i < 3 ∧ F__law_draw [.loc 0, .int 577] S = .ok (.int m) S1) ∨ (¬ i < 3 ∧ F__law_great [.loc 0] S = .ok (.int m) S1)) ∧ Pot S1 R ∧ 0 ≤ m ∧ m ≤ 1000000000000000000000000000000 := by
    by_cases h : i < 3
    · obtain ⟨d, S1, e1, hp1, d0, d1⟩ := draw hp (m := 577) (by omega) (by omega)
      exact ⟨d, S1, Or.inl ⟨h, e1⟩, hp1, d0, by omega⟩
    · obtain ⟨d, S1, e1, hp1, d0, d1⟩ := law_great hp
      exact ⟨d, S1, Or.inr ⟨h, e1⟩, hp1, d0, by omega⟩
  obtain ⟨m, S1, e1, hp1, m0, m1⟩ := dr
  obtain ⟨x, S2, e2, hp2, x0, x1⟩ := draw hp1 (m := L) (by omega) (by omega)
  have hl := r.lt
  have per : ∀ k, Orb ow rows ht hn wt wn (b + (k + (N - b))) = Orb ow rows ht hn wt wn (b + k) := fun k => by
    have := orb_shift (f := nxt ow rows ht hn wt wn) r.eq k
    rw [show b + (k + (N - b)) = N + k by omega]
    exact this.symm
  have lateO := orb_late (f := nxt ow rows ht hn wt wn) hl r.eq m0
  have pE : plc ow rows ht hn wt wn (lateI b (N - b) m).toNat = plc ow rows ht hn wt wn m.toNat := congrArg (fun t => t.1) lateO
  have lE : ltr ow rows ht hn wt wn (lateI b (N - b) m).toNat = ltr ow rows ht hn wt wn m.toNat := congrArg (fun t => (gI (mvs rows) (num ow rows ht wt t)).2.1) lateO
  obtain ⟨g, hg⟩ : ∃ g : Nat → Int, g = fun i => if ltr ow rows ht hn wt wn i = x then 1 else 0 := ⟨_, rfl⟩
  have gper : ∀ k, g (b + (k + (N - b))) = g (b + k) := fun k => by
    rw [hg]
    show (if (gI (mvs rows) (num ow rows ht wt (Orb ow rows ht hn wt wn (b + (k + (N - b)))))).2.1 = x then (1 : Int) else 0) = _
    rw [per k]
    rfl
  have g01 : ∀ i, g i = 0 ∨ g i = 1 := fun i => by rw [hg]; by_cases h : ltr ow rows ht hn wt wn i = x <;> simp [h]
  have sg := sumL_sig hl gper m0
  have s1 := sig01 g01 m.toNat
  -- the row of the letter
  have rowE : ∀ Γ0 Γ1 Γ2 Γ3 Γ4 Γ5 Γ6 Γ7 Γ8 Γ9 Γ10 Γ11 Γ12 Γ13 Γ14 Γ15 Γ16 Γ18 Γ19 Γ20 Γ21 : Option Sl, lcL lt3__law_course_right bYes lf3__law_course_right [Γ0, Γ1, Γ2, Γ3, Γ4, Γ5, Γ6, Γ7, Γ8, Γ9, Γ10, Γ11, Γ12, Γ13, Γ14, Γ15, Γ16, some (.val (.int x)), Γ18, Γ19, Γ20, Γ21, none, none, none] (((List.range 578).map (ltr ow rows ht hn wt wn)).map D.int) S2 = .ok (((List.range 578).map g).map D.int) S2 := by
    intro Γ0 Γ1 Γ2 Γ3 Γ4 Γ5 Γ6 Γ7 Γ8 Γ9 Γ10 Γ11 Γ12 Γ13 Γ14 Γ15 Γ16 Γ18 Γ19 Γ20 Γ21
    have := lcL_all (t := lt3__law_course_right) (f := lf3__law_course_right) (S := S2) D.int (fun l => D.int (if l = x then 1 else 0)) ((List.range 578).map (ltr ow rows ht hn wt wn)) (Γ := [Γ0, Γ1, Γ2, Γ3, Γ4, Γ5, Γ6, Γ7, Γ8, Γ9, Γ10, Γ11, Γ12, Γ13, Γ14, Γ15, Γ16, some (.val (.int x)), Γ18, Γ19, Γ20, Γ21, none, none, none]) fun l _ => by simp [lt3__law_course_right, lf3__law_course_right]
    rw [this, hg, List.map_map, List.map_map]
    rfl
  have late1 := law_late S2 ((List.range 578).map (plc ow rows ht hn wt wn)) (b : Int) ((N : Int) - (b : Int)) m m0 (by omega) (by omega) (by simp; omega)
  rw [late_rng hl (by omega) m0 pE] at late1
  have late2 := law_late S2 ((List.range 578).map (ltr ow rows ht hn wt wn)) (b : Int) ((N : Int) - (b : Int)) m m0 (by omega) (by omega) (by simp; omega)
  rw [late_rng hl (by omega) m0 lE] at late2
  have tk1 : ((List.range 578).map g).take b = ((List.range N).map g).take b := by rw [take_rngI g (by omega), take_rngI g (by omega)]
  have tk2 : (((List.range 578).map g).drop b).take (N - b) = ((List.range N).map g).drop b := by rw [drop_rng, drop_rng, take_rngI _ (by omega)]
  have sdr := sum01 (((List.range N).map g).drop b) fun y hy => by
    obtain ⟨i, _, rfl⟩ := List.mem_map.mp (List.mem_of_mem_drop hy)
    exact g01 i
  have sdl : (((List.range N).map g).drop b).length = N - b := by simp
  have tn1 : ((b : Int)).toNat = b := Int.toNat_natCast b
  have tn2 : ((N : Int) - (b : Int)).toNat = N - b := by omega
  have ls := law_sum S2 ((List.range 578).map g) (b : Int) ((N : Int) - (b : Int)) m m0 (by omega) (by omega) (by omega) (by simp; omega) (by rw [tn1, tn2, tk2]; omega) (by rw [tn1, tn2, tk2]; omega)
  rw [tn1, tn2, tk2, tk1, sg] at ls
  -- the program's answers
  have pb := place_behind S2 T (by omega) r m0 m1
  have la := letter_at S2 T (by omega) r m0 m1
  have co := counted S2 T (by omega) r m0 m1 x0 x1
  have pE' : (Orb ow rows ht hn wt wn (lateI b (N - b) m).toNat).1 = plc ow rows ht hn wt wn m.toNat := pE
  have lE' : (gI (mvs rows) (num ow rows ht wt (Orb ow rows ht hn wt wn (lateI b (N - b) m).toNat))).2.1 = ltr ow rows ht hn wt wn m.toNat := lE
  rw [pE'] at pb
  rw [lE'] at la
  have i1 : ind rows x ((rowK ow rows ht hn wt wn N).take b) = ((List.range N).map g).take b := by
    unfold ind rowK
    rw [← List.map_take, ← List.map_take, List.map_map, hg]
    rfl
  have i2 : ind rows x ((rowK ow rows ht hn wt wn N).drop b) = ((List.range N).map g).drop b := by
    unfold ind rowK
    rw [← List.map_drop, ← List.map_drop, List.map_map, hg]
    rfl
  rw [i1, i2, sg] at co
  -- the check below most
  have chk : m < 577 → L2.atI (((List.range 578).map (plc ow rows ht hn wt wn)).map D.int) m = some (D.int (plc ow rows ht hn wt wn m.toNat)) ∧ L2.atI (((List.range 578).map (ltr ow rows ht hn wt wn)).map D.int) m = some (D.int (ltr ow rows ht hn wt wn m.toNat)) := fun h => by
    have a1 := atI_gI (f := D.int) (l := (List.range 578).map (plc ow rows ht hn wt wn)) m0 (by simp; omega)
    have a2 := atI_gI (f := D.int) (l := (List.range 578).map (ltr ow rows ht hn wt wn)) m0 (by simp; omega)
    rw [gI_rng m0 (by omega)] at a1 a2
    exact ⟨a1, a2⟩
  have cn : m < 577 → oCnt S2 (D.lst (cutD (((List.range 578).map (ltr ow rows ht hn wt wn)).map D.int) none (some m))) (D.int x) = some (D.int (sig g m.toNat)) := fun h => by
    rw [cutD_toI m0, ← List.map_take, take_rngI _ (by omega)]
    have c := cnt_sig (ltr ow rows ht hn wt wn) x m.toNat
    have v : viewLs S2 (.lst (((List.range m.toNat).map (ltr ow rows ht hn wt wn)).map D.int)) = some (((List.range m.toNat).map (ltr ow rows ht hn wt wn)).map D.int) := rfl
    show ((viewLs S2 (.lst (((List.range m.toNat).map (ltr ow rows ht hn wt wn)).map D.int))).bind intsOf).map _ = _
    rw [v, Option.bind_some, intsOf_int, Option.map_some, c, hg]
  have v := orb_val T m.toNat
  have vn := num_ok T v
  have e31 : (10 : Nat) ^ 31 = 10000000000000000000000000000000 := by decide
  have hn24 := T.P.n24
  obtain ⟨s, rp⟩ := repr_own S2 (plc ow rows ht hn wt wn m.toNat) (ltr ow rows ht hn wt wn m.toNat) (sig g m.toNat) (by
    have h1 : 0 ≤ plc ow rows ht hn wt wn m.toNat := v.1.1
    have h2 : plc ow rows ht hn wt wn m.toNat < rows.length := v.1.2
    rw [e31]; omega) (by
    have h1 : 0 ≤ ltr ow rows ht hn wt wn m.toNat := vn.2.2.2.2.2.2.2.1
    have h2 : ltr ow rows ht hn wt wn m.toNat < L := vn.2.2.2.2.2.2.2.2
    rw [e31]; omega) (by rw [e31]; omega)
  have ns := ne_same S2 [plc ow rows ht hn wt wn m.toNat, ltr ow rows ht hn wt wn m.toNat, sig g m.toNat]
  simp only [List.map_cons, List.map_nil] at ns
  have len1 : (((List.range 578).map (ltr ow rows ht hn wt wn)).map D.int).length = 578 := by simp
  have len2 : (((List.range 578).map g).map D.int).length = 578 := by simp
  have st : ∀ Γ4 Γ5 Γ6 Γ7 Γ8 Γ9 Γ10 Γ11 Γ12 Γ13 Γ14 : Option Sl, Γ4 = some (.val (.int 578)) → sPar [16, 17] (mVal (eIf (toB (eBin2 oLt (eVb 15) (eC (.int 3)))) (eCall F__law_draw (aCons (eV 0) (aCons (eBin2 oSub (eVb 4) (eC (.int 1))) (aNil)))) (eCall F__law_great (aCons (eV 0) (aNil)))) (mVal (eCall F__law_draw (aCons (eV 0) (aCons (eBin2 oIx (eVb 1) (eC (.int 1))) (aNil)))) (mNil)))
      [some (.val (.loc 0)), some (.val (plD L ow rows)), some (.val (mcD "hand" ht hn)), some (.val (mcD "weather" wt wn)), Γ4, Γ5, Γ6, Γ7, Γ8, Γ9, Γ10, Γ11, Γ12, Γ13, Γ14, some (.val (.int i)), x16, x17, x18, x19, x20, x21, none, none, none] S =
      .nx [some (.val (.loc 0)), some (.val (plD L ow rows)), some (.val (mcD "hand" ht hn)), some (.val (mcD "weather" wt wn)), Γ4, Γ5, Γ6, Γ7, Γ8, Γ9, Γ10, Γ11, Γ12, Γ13, Γ14, some (.val (.int i)), some (.val (.int m)), some (.val (.int x)), x18, x19, x20, x21, none, none, none] S2 := by
    intro Γ4 Γ5 Γ6 Γ7 Γ8 Γ9 Γ10 Γ11 Γ12 Γ13 Γ14 h4
    subst h4
    rcases e1 with ⟨h, e1⟩ | ⟨h, e1⟩
    · simp [h, e1, e2]
    · simp [h, e1, e2]
  unfold tuK
  generalize (N : Int) - (b : Int) = sz at *
  generalize (b : Int) = bb at *
  generalize plc ow rows ht hn wt wn m.toNat = pm at *
  generalize ltr ow rows ht hn wt wn m.toNat = lm at *
  generalize sig g m.toNat = cm at *
  generalize ((List.range 578).map (ltr ow rows ht hn wt wn)).map D.int = LL at *
  generalize ((List.range 578).map (plc ow rows ht hn wt wn)).map D.int = PP at *
  generalize ((List.range 578).map g).map D.int = GG at *
  refine ⟨some (.val (.int m)), some (.val (.int x)), some (.val (.lst GG)), some (.val (.lst [.int pm, .int lm, .int cm])), some (.val (.lst [.int pm, .int lm, .int cm])), some (.val (.lst [.int pm, .int lm, .int cm])), S2, ?_, hp2⟩
  unfold b1__law_course_right
  rw [c_sSeq, st _ _ _ _ _ _ _ _ _ _ _ rfl, seqR_nx]
  by_cases h : m < 577
  · obtain ⟨a1, a2⟩ := chk h
    have c := cn h
    simp [rowE, late1, late2, ls, pb, la, co, a1, a2, c, h, ns, rp, len1, len2, perm, isLs]
  · simp [rowE, late1, late2, ls, pb, la, co, h, rp, len1, len2, perm]
end
end K76
set_option Elab.async false
set_option linter.all false
set_option maxRecDepth 100000
set_option maxHeartbeats 4000000
namespace K76
open PySem L2 DL
theorem Pot.app {S R : Store} (h : Pot S R) (X : Store) : Pot (S ++ X) (R ++ X) := by
  obtain ⟨a, b, rfl, r⟩ := h
  exact ⟨a, b, rfl, r⟩
theorem get0 (S : Store) (A B : SO) : (S ++ [A, B])[S.length]? = some A := by simp
theorem get1 (S : Store) (A B : SO) : (S ++ [A, B])[S.length + 1]? = some B := by simp [List.getElem?_append_right]
theorem set0 (S : Store) (A B A' : SO) : (S ++ [A, B]).set S.length A' = S ++ [A', B] := by simp [List.set_append_right]
theorem set1 (S : Store) (A B B' : SO) : (S ++ [A, B]).set (S.length + 1) B' = S ++ [A, B'] := by simp [List.set_append_right]
def dueP (hd lp : List Int) : PyData := .tuple [.list (iP hd), .list (iP lp)]
theorem okP_due {hd lp : List Int} (h1 : ∀ x ∈ hd, x.natAbs < 10 ^ 31) (h2 : ∀ x ∈ lp, x.natAbs < 10 ^ 31) (hl : hd.length + lp.length ≤ 2900) : okP (dueP hd lp) ∧ (dueP hd lp).depth ≤ 60 ∧ cnt (dueP hd lp) ≤ 3000 := by
  have a := okPs_i hd h1
  have b := okPs_i lp h2
  simp only [dueP, okP, okPs, PyData.depth, PyData.depthAll, cnt, cnts]
  exact ⟨⟨a.1, b.1, trivial⟩, by omega, by omega⟩
theorem due_repr (S : Store) {hd lp : List Int} (h1 : ∀ x ∈ hd, x.natAbs < 10 ^ 31) (h2 : ∀ x ∈ lp, x.natAbs < 10 ^ 31) (hl : hd.length + lp.length ≤ 2900) :
    bRepr S [.tup [.lst (hd.map .int), .lst (lp.map .int)]] = some (.str (dueP hd lp).shown) := by
  obtain ⟨a, b, c⟩ := okP_due h1 h2 hl
  have e1 := pySL_i S hd
  have e2 := pySL_i S lp
  exact repr_of S _ _ rfl (by simp [pyS, pySL, e1, e2, dueP]) a b c
theorem told_repr (S : Store) {hd lp : List Int} (h1 : ∀ x ∈ hd, x.natAbs < 10 ^ 31) (h2 : ∀ x ∈ lp, x.natAbs < 10 ^ 31) (hl : hd.length + lp.length ≤ 2900) :
    bRepr (S ++ [.lst (hd.map .int), .lst (lp.map .int)]) [.tup [.loc S.length, .loc (S.length + 1)]] = some (.str (dueP hd lp).shown) := by
  obtain ⟨a, b, c⟩ := okP_due h1 h2 hl
  have e1 := pyDL_i hd
  have e2 := pyDL_i lp
  have g0 := get0 S (.lst (hd.map .int)) (.lst (lp.map .int))
  have g1 := get1 S (.lst (hd.map .int)) (.lst (lp.map .int))
  refine repr_of _ _ _ rfl ?_ a b c
  simp only [pyS, pySL, g0, g1, e1, e2]
  rfl
section
variable {L : Int} {ow : List Int} {rows : List (List Mv)} {ht : List (List (Option Int))} {hn : List (List Int)} {wt : List (List (Option Int))} {wn : List (List Int)}
/-- a small game -/
structure Sm (rows : List (List Mv)) (ht wt : List (List (Option Int))) : Prop where
  r6 : rows.length ≤ 6
  r3 : ∀ r ∈ rows, r.length ≤ 3
  m18 : (mvs rows).length ≤ 18
  h8 : ht.length ≤ 8
  w12 : wt.length ≤ 12
theorem ring576 (T : Tri L ow rows ht hn wt wn) (z : Sm rows ht wt) : ∃ N b, N ≤ 576 ∧ Ring (Orb ow rows ht hn wt wn) N b := by
  have h6 := z.r6
  have h8 := z.h8
  have h12 := z.w12
  obtain ⟨N, b, h⟩ := ring_of (Orb ow rows ht hn wt wn) (fun t => (t.1.toNat * 8 + t.2.1.toNat) * 12 + t.2.2.toNat) 576 fun n => by
    obtain ⟨⟨a0, a1⟩, ⟨b0, b1⟩, ⟨c0, c1⟩⟩ := orb_val T n
    omega
  rcases h with h | h | h
  · exact ⟨N, b, h⟩
  · exact h.elim
  · refine (h fun i j e => ?_).elim
    obtain ⟨⟨a0, a1⟩, ⟨b0, b1⟩, ⟨c0, c1⟩⟩ := orb_val T i
    obtain ⟨⟨d0, d1⟩, ⟨e0, e1⟩, ⟨f0, f1⟩⟩ := orb_val T j
    refine Prod.ext ?_ (Prod.ext ?_ ?_) <;> omega
theorem shown_game (S : Store) (T : Tri L ow rows ht hn wt wn) (z : Sm rows ht wt) : bRepr S [.lst [plD L ow rows, mcD "hand" ht hn, mcD "weather" wt wn]] = some (.str (PyData.list [plP L ow rows, mcP "hand" ht hn, mcP "weather" wt wn]).shown) := by
  have e1 := pyS_pl S L ow rows
  have e2 := pyS_mc S "hand" ht hn
  have e3 := pyS_mc S "weather" wt wn
  obtain ⟨a1, a2, a3⟩ := okP_pl T.P z.r6 z.r3
  obtain ⟨b1, b2, b3⟩ := okP_mc T.P T.H (w := "hand") (by have := z.h8; omega) z.r6 z.m18 (by decide)
  obtain ⟨c1, c2, c3⟩ := okP_mc T.P T.W (w := "weather") z.w12 z.r6 z.m18 (by decide)
  refine repr_of S _ _ rfl (by simp [pyS, pySL, e1, e2, e3]) (by simp only [okP, okPs]; exact ⟨a1, b1, c1, trivial⟩) (by simp only [PyData.depth, PyData.depthAll]; omega) (by simp only [cnt, cnts]; omega)
theorem turns (T : Tri L ow rows ht hn wt wn) {N b : Nat} (hN : N ≤ 577) (r : Ring (Orb ow rows ht hn wt wn) N b) {S R : Store} (hp : Pot S R) (y5 y6 y9 y10 y11 y12 : Option Sl) :
    ∃ x15 x16 x17 x18 x19 x20 x21 S', forL t1__law_course_right b1__law_course_right (rngD 0 6) (tuK L ow rows ht hn wt wn N b y5 y6 y9 y10 y11 y12 none none none none none none none) S = .nx (tuK L ow rows ht hn wt wn N b y5 y6 y9 y10 y11 y12 x15 x16 x17 x18 x19 x20 x21) S' ∧ Pot S' R := by
  obtain ⟨Γ, S1, e, I⟩ := forL_inv (t := t1__law_course_right) (body := b1__law_course_right) (fun i Γ S' => Pot S' R ∧ ∃ x15 x16 x17 x18 x19 x20 x21, Γ = tuK L ow rows ht hn wt wn N b y5 y6 y9 y10 y11 y12 x15 x16 x17 x18 x19 x20 x21)
    (rngD 0 6) 0 (tuK L ow rows ht hn wt wn N b y5 y6 y9 y10 y11 y12 none none none none none none none) S ⟨hp, _, _, _, _, _, _, _, rfl⟩ fun i d Γ S' hd ⟨hS, x15, x16, x17, x18, x19, x20, x21, eΓ⟩ => by
      obtain ⟨hi, rfl⟩ := rngD_get hd
      subst eΓ
      obtain ⟨z16, z17, z18, z19, z20, z21, S2, e1, e2⟩ := turn_step T hN r hS y5 y6 y9 y10 y11 y12 x16 x17 x18 x19 x20 x21 (0 + (i : Int)) T.P.l1 T.P.l4
      exact ⟨tuK L ow rows ht hn wt wn N b y5 y6 y9 y10 y11 y12 (some (.val (.int (0 + (i : Int))))) x16 x17 x18 x19 x20 x21, _, S2, by simp [t1__law_course_right, tuK], e1, e2, _, _, _, _, _, _, _, rfl⟩
  obtain ⟨hS, x15, x16, x17, x18, x19, x20, x21, rfl⟩ := I
  exact ⟨_, _, _, _, _, _, _, S1, e, hS⟩
end
end K76
set_option Elab.async false
set_option linter.all false
set_option maxRecDepth 100000
set_option maxHeartbeats 4000000
namespace K76
open PySem L2 DL
section
variable {L : Int} {ow : List Int} {rows : List (List Mv)} {ht : List (List (Option Int))} {hn : List (List Int)} {wt : List (List (Option Int))} {wn : List (List Int)}
theorem law_course_right (T : Tri L ow rows ht hn wt wn) (z : Sm rows ht wt) {S R : Store} (hp : Pot S R) :
    ∃ S' R', F__law_course_right [.loc 0, plD L ow rows, mcD "hand" ht hn, mcD "weather" wt wn, .int 578] S = .ok (.bl true) S' ∧ Pot S' R' := by
  obtain ⟨N, b, hN, r⟩ := ring576 T z
  have hl := r.lt
  have m18 := z.m18
  have e31 : (10 : Nat) ^ 31 = 10000000000000000000000000000000 := by decide
  have play := law_play S T 578 (by omega)
  have ring := law_ring S r (M := 578) (by omega) (by omega)
  have mvz := law_moves L ow rows S (by omega)
  have sh := fun S => shown_game S T z
  have lenK := rowK_length (ow := ow) (rows := rows) (ht := ht) (hn := hn) (wt := wt) (wn := wn) N
  have bdK : ∀ x ∈ rowK ow rows ht hn wt wn N, x.natAbs < 10 ^ 31 := fun x hx => by
    have := row_bd T x hx
    rw [e31]; omega
  have bd1 : ∀ x ∈ (rowK ow rows ht hn wt wn N).take b, x.natAbs < 10 ^ 31 := fun x hx => bdK x (List.mem_of_mem_take hx)
  have bd2 : ∀ x ∈ (rowK ow rows ht hn wt wn N).drop b, x.natAbs < 10 ^ 31 := fun x hx => bdK x (List.mem_of_mem_drop hx)
  have bl : ((rowK ow rows ht hn wt wn N).take b).length + ((rowK ow rows ht hn wt wn N).drop b).length ≤ 2900 := by simp [lenK]; omega
  have ta : (((rowK ow rows ht hn wt wn N).take b).map D.int).length < 16777216 := by simp [lenK]; omega
  have c1 : cutD ((rowK ow rows ht hn wt wn 578).map D.int) none (some (b : Int)) = ((rowK ow rows ht hn wt wn N).take b).map D.int := by
    rw [cutD_to, ← List.map_take]
    unfold rowK
    rw [take_rngI _ (by omega), take_rngI _ (by omega)]
  have c2 : cutD ((rowK ow rows ht hn wt wn 578).map D.int) (some (b : Int)) (some ((b : Int) + ((N : Int) - (b : Int)))) = ((rowK ow rows ht hn wt wn N).drop b).map D.int := by
    rw [show (b : Int) + ((N : Int) - (b : Int)) = (N : Int) by omega, cutD_mid, ← List.map_drop, ← List.map_take]
    unfold rowK
    rw [drop_rng, drop_rng, take_rngI _ (by omega)]
  have cp := course_p S T (by omega) r
  have co := fun S => course S T (by omega) r
  have dr := fun S => due_repr S bd1 bd2 bl
  have tr := told_repr S bd1 bd2 bl
  simp only [lstI] at co play
  have let_ : ∀ (Γ0 Γ1 Γ2 Γ3 Γ4 Γ5 Γ6 Γ7 Γ8 Γ10 Γ11 Γ12 Γ13 Γ14 : Option Sl) (S : Store), lcL lt2__law_course_right bYes lf2__law_course_right [Γ0, Γ1, Γ2, Γ3, Γ4, Γ5, Γ6, Γ7, Γ8, some (.val (.lst ((mvs rows).map tI3))), Γ10, Γ11, Γ12, Γ13, Γ14, none, none, none, none, none, none, none, none, none, none] ((rowK ow rows ht hn wt wn 578).map .int) S = .ok (((List.range 578).map (ltr ow rows ht hn wt wn)).map D.int) S := by
    intro Γ0 Γ1 Γ2 Γ3 Γ4 Γ5 Γ6 Γ7 Γ8 Γ10 Γ11 Γ12 Γ13 Γ14 S
    have := lcL_all (t := lt2__law_course_right) (f := lf2__law_course_right) (S := S) D.int (fun n => D.int (gI (mvs rows) n).2.1) (rowK ow rows ht hn wt wn 578) (Γ := [Γ0, Γ1, Γ2, Γ3, Γ4, Γ5, Γ6, Γ7, Γ8, some (.val (.lst ((mvs rows).map tI3))), Γ10, Γ11, Γ12, Γ13, Γ14, none, none, none, none, none, none, none, none, none, none]) fun n hn' => by
      have bd := row_bd T n hn'
      have a := atI_gI (f := tI3) (l := mvs rows) bd.1 bd.2
      simp [lt2__law_course_right, lf2__law_course_right, a]
    rw [this]
    unfold rowK
    rw [List.map_map, List.map_map]
    rfl
  have plc_ : ∀ (Γ0 Γ1 Γ2 Γ3 Γ4 Γ5 Γ6 Γ7 Γ8 Γ9 Γ10 Γ11 Γ12 Γ13 Γ14 : Option Sl) (S : Store), lcL lt1__law_course_right bYes lf1__law_course_right [Γ0, Γ1, Γ2, Γ3, Γ4, Γ5, Γ6, Γ7, Γ8, Γ9, Γ10, Γ11, Γ12, Γ13, Γ14, none, none, none, none, none, none, none, none, none, none] ((List.range 578).map fun i => tI3 (Orb ow rows ht hn wt wn i)) S = .ok (((List.range 578).map (plc ow rows ht hn wt wn)).map D.int) S := by
    intro Γ0 Γ1 Γ2 Γ3 Γ4 Γ5 Γ6 Γ7 Γ8 Γ9 Γ10 Γ11 Γ12 Γ13 Γ14 S
    have := lcL_all (t := lt1__law_course_right) (f := lf1__law_course_right) (S := S) (fun i => tI3 (Orb ow rows ht hn wt wn i)) (fun i => D.int (plc ow rows ht hn wt wn i)) (List.range 578) (Γ := [Γ0, Γ1, Γ2, Γ3, Γ4, Γ5, Γ6, Γ7, Γ8, Γ9, Γ10, Γ11, Γ12, Γ13, Γ14, none, none, none, none, none, none, none, none, none, none]) fun n hn' => by
      simp [lt1__law_course_right, lf1__law_course_right, plc]
    rw [this, List.map_map]
    rfl
  have len1 : (((List.range 578).map (ltr ow rows ht hn wt wn)).map D.int).length = 578 := by simp
  have len2 : (((List.range 578).map (plc ow rows ht hn wt wn)).map D.int).length = 578 := by simp
  have len3 : ((rowK ow rows ht hn wt wn 578).map D.int).length = 578 := by simp [rowK_length]
  have len4 : ((List.range 578).map fun i => tI3 (Orb ow rows ht hn wt wn i)).length = 578 := by simp
  have rg : rangeD [.int 6] = some (rngD 0 6) := range1 (n := 6) (by omega) (by omega)
  have S0 := get0 S (.lst (((rowK ow rows ht hn wt wn N).take b).map .int)) (.lst (((rowK ow rows ht hn wt wn N).drop b).map .int))
  have S1 := set0 S (.lst (((rowK ow rows ht hn wt wn N).take b).map .int)) (.lst (((rowK ow rows ht hn wt wn N).drop b).map .int)) (.lst (((rowK ow rows ht hn wt wn N).take b).map .int ++ [.non]))
  have S2 := get1 S (.lst (((rowK ow rows ht hn wt wn N).take b).map .int ++ [.non])) (.lst (((rowK ow rows ht hn wt wn N).drop b).map .int))
  have S3 := set1 S (.lst (((rowK ow rows ht hn wt wn N).take b).map .int ++ [.non])) (.lst (((rowK ow rows ht hn wt wn N).drop b).map .int)) (.lst [])
  have tt := turns T (N := N) (b := b) (by omega) r (hp.app [.lst (((rowK ow rows ht hn wt wn N).take b).map .int ++ [.non]), .lst []])
  unfold tuK at tt
  obtain ⟨x15, x16, x17, x18, x19, x20, x21, S', e, hp'⟩ := tt (some (.val (.lst ((rowK ow rows ht hn wt wn 578).map .int)))) (some (.val (.lst ((List.range 578).map fun i => tI3 (Orb ow rows ht hn wt wn i))))) (some (.val (.lst ((mvs rows).map tI3)))) (some (.val (.str (PyData.list [plP L ow rows, mcP "hand" ht hn, mcP "weather" wt wn]).shown)))
    (some (.val (.tup [.lst (((rowK ow rows ht hn wt wn N).take b).map .int), .lst (((rowK ow rows ht hn wt wn N).drop b).map .int)]))) (some (.val (.tup [.loc S.length, .loc (S.length + 1)])))
  refine ⟨S', _, ?_, hp'⟩
  clear tt bd1 bd2 bl bdK
  rw [show ((578 : Nat) : Int) = 578 from rfl] at play
  generalize ((List.range 578).map (ltr ow rows ht hn wt wn)).map D.int = LL at *
  generalize ((List.range 578).map (plc ow rows ht hn wt wn)).map D.int = PP at *
  generalize (rowK ow rows ht hn wt wn 578).map D.int = KK at *
  generalize ((List.range 578).map fun i => tI3 (Orb ow rows ht hn wt wn i)) = SS at *
  generalize (dueP ((rowK ow rows ht hn wt wn N).take b) ((rowK ow rows ht hn wt wn N).drop b)).shown = dueS at *
  generalize ((rowK ow rows ht hn wt wn N).take b).map D.int = HD at *
  generalize ((rowK ow rows ht hn wt wn N).drop b).map D.int = LP at *
  generalize (N : Int) - (b : Int) = sz at *
  generalize (b : Int) = bb at *
  generalize (PyData.list [plP L ow rows, mcP "hand" ht hn, mcP "weather" wt wn]).shown = shw at *
  generalize (mvs rows).map tI3 = MM at *
  simp [F__law_course_right, fnOf, g__law_course_right, play, ring, mvz, sh, c1, c2, cp, co, dr, tr, perm, S0, S1, S2, S3, ta, let_, plc_, len1, len2, len3, len4, rg, e, slD]
end
end K76
set_option Elab.async false
set_option linter.all false
set_option maxRecDepth 100000
set_option maxHeartbeats 4000000
namespace K76
open PySem L2 DL
/-! ### gcd -/
def gcdL : Nat → Nat → Nat → Nat
  | 0, a, _ => a
  | n + 1, a, c => if c = 0 then a else gcdL n c (a % c)
theorem gcd_loop (S : Store) : ∀ (n : Nat) (lo : Int) (a c : Nat) (x : Option Sl), a < 1000000 → c < 1000000 → 
    forL t1__law_gcd b1__law_gcd (rngD lo n) [some (.val (.int (a : Int))), some (.val (.int (c : Int))), x] S = .rt (.int (gcdL n a c : Nat)) S ∨
    ∃ c' x', forL t1__law_gcd b1__law_gcd (rngD lo n) [some (.val (.int (a : Int))), some (.val (.int (c : Int))), x] S = .nx [some (.val (.int ((gcdL n a c : Nat) : Int))), c', x'] S := by
  intro n
  induction n with
  | zero => exact fun lo a c x _ _ => Or.inr ⟨_, _, rfl⟩
  | succ n ih =>
    intro lo a c x ha hc
    have er : rngD lo (n + 1) = .int lo :: rngD (lo + 1) n := by
      rw [rngD_eq, rngD_eq, List.range_succ_eq_map, List.map_cons, List.map_map]
      simp
      intro i _
      omega
    rw [er]
    by_cases h : c = 0
    · left
      subst h
      refine forL_rt (Γ1 := [some (.val (.int (a : Int))), some (.val (.int ((0 : Nat) : Int))), some (.val (.int lo))]) (by simp [t1__law_gcd]) ?_
      simp [b1__law_gcd, gcdL]
    · have hm := Nat.mod_lt a (show 0 < c by omega)
      have st : b1__law_gcd [some (.val (.int (a : Int))), some (.val (.int (c : Int))), some (.val (.int lo))] S = .nx [some (.val (.int (c : Int))), some (.val (.int ((a % c : Nat) : Int))), some (.val (.int lo))] S := by
        have hp : (0 : Int) < (c : Int) := by omega
        have hne : ¬ (c : Int) = 0 := by omega
        have em : ((a % c : Nat) : Int) = (a : Int) % (c : Int) := Int.natCast_emod a c
        rw [em]
        generalize (c : Int) = cc at *
        generalize (a : Int) = aa at *
        simp [b1__law_gcd, hne, hp]
      rw [forL_nx (Γ1 := [some (.val (.int (a : Int))), some (.val (.int (c : Int))), some (.val (.int lo))]) (by simp [t1__law_gcd]) st]
      have eg : gcdL (n + 1) a c = gcdL n c (a % c) := by rw [gcdL, if_neg h]
      rw [eg]
      exact ih (lo + 1) c (a % c) _ hc (by omega)
theorem law_gcd (S : Store) (a c : Nat) (ha : a < 1000000) (hc : c < 1000000) : F__law_gcd [.int a, .int c] S = .ok (.int ((gcdL 12 a c : Nat) : Int)) S := by
  have rg : rangeD [.int 12] = some (rngD 0 12) := range1 (n := 12) (by omega) (by omega)
  have e := gcd_loop S 12 0 a c none ha hc
  generalize ((gcdL 12 a c : Nat) : Int) = gg at *
  generalize (a : Int) = aa at *
  generalize (c : Int) = cc at *
  rcases e with e | ⟨c', x', e⟩
  · simp [F__law_gcd, fnOf, g__law_gcd, rg, e]
  · simp [F__law_gcd, fnOf, g__law_gcd, rg, e]
theorem gcd_small : ∀ a, a < 41 → ∀ c, c < 61 → gcdL 12 a c = Nat.gcd a c := by decide +kernel
theorem gcd_two (n : Nat) : gcdL 12 n 2 = Nat.gcd n 2 := by
  have h := Nat.mod_two_eq_zero_or_one n
  rw [Nat.gcd_comm, Nat.gcd_rec]
  rcases h with h | h <;> simp [gcdL, h]
end K76
set_option Elab.async false
set_option linter.all false
set_option maxRecDepth 100000
set_option maxHeartbeats 4000000
namespace K76
open PySem L2 DL
/-! ### counters -/
def nxF (f n i : Nat) : Int := if i + 1 < n then (i : Int) + 1 else f
theorem law_counter_core (S : Store) (w : PySem.Str) (tk : D) (ff ss : Int) (q : Nat) (RR GG : List D) (rg : rangeD [.int (ff + ss)] = some GG) (len : GG.length = q) (len2 : q ≤ 16777216) (lc : lcL lt1__law_counter bYes lf1__law_counter [some (.val (.str w)), some (.val tk), some (.val (.int ff)), some (.val (.int ss)), none, none] GG S = .ok RR S)
    (em : oMul S (.tup [tk]) (.int (ff + ss)) = some (.tup (List.replicate q tk))) : F__law_counter [.str w, tk, .int ff, .int ss] S = .ok (.tup [.str w, .tup (List.replicate q tk), .tup RR]) S := by
  simp [-o_mulT, F__law_counter, fnOf, g__law_counter, rg, lc, len, len2, em]
theorem law_counter (S : Store) (w : PySem.Str) (tk : D) (f s : Nat) (h1 : 1 ≤ s) (h2 : f + s ≤ 1000) : F__law_counter [.str w, tk, .int (f : Int), .int (s : Int)] S =
    .ok (.tup [.str w, .tup (List.replicate (f + s) tk), .tup ((List.range (f + s)).map fun i => .tup [.int (nxF f (f + s) i), .int (nxF f (f + s) i)])]) S := by
  have rg : rangeD [.int ((f : Int) + (s : Int))] = some (rngD 0 (f + s)) := by
    have := range1 (n := (f : Int) + (s : Int)) (by omega) (by omega)
    rwa [show ((f : Int) + (s : Int)).toNat = f + s by omega] at this
  have lc : lcL lt1__law_counter bYes lf1__law_counter [some (.val (.str w)), some (.val tk), some (.val (.int (f : Int))), some (.val (.int (s : Int))), none, none] (rngD 0 (f + s)) S =
      .ok ((List.range (f + s)).map fun i => .tup [.int (nxF f (f + s) i), .int (nxF f (f + s) i)]) S := by
    rw [rngD_eq]
    refine lcL_all (fun i : Nat => D.int (0 + (i : Int))) (fun i : Nat => D.tup [.int (nxF f (f + s) i), .int (nxF f (f + s) i)]) (List.range (f + s)) fun i _ => ?_
    by_cases h : i + 1 < f + s
    · have h' : (i : Int) + 1 < (f : Int) + (s : Int) := by omega
      simp [lt1__law_counter, lf1__law_counter, nxF, h, h']
    · have h' : ¬ (i : Int) + 1 < (f : Int) + (s : Int) := by omega
      simp [lt1__law_counter, lf1__law_counter, nxF, h, h']
  have len : (rngD 0 (f + s)).length = f + s := by rw [rngD_eq]; simp
  have len2 : f + s ≤ 16777216 := by omega
  have em : oMul S (.tup [tk]) (.int ((f : Int) + (s : Int))) = some (.tup (List.replicate (f + s) tk)) := by
    rw [o_mulT]
    by_cases h : (f : Int) + (s : Int) = 1
    · rw [if_pos h, show f + s = 1 by omega]
      rfl
    · have a : (2 : Int) ≤ (f : Int) + (s : Int) := by omega
      have b : (f : Int) + (s : Int) ≤ 1000 := by omega
      have c : ((f : Int) + (s : Int)).toNat = f + s := by omega
      rw [if_neg h, c]
      simp [a, b, List.flatten_replicate_singleton]
  exact law_counter_core S w tk f s (f + s) _ _ rg len (by omega) lc em
/-! ### too many -/
theorem whL_ex {c : Ev Bool} {b : Es} {n : Nat} {Γ Γ2 : Gm} {S S1 S2 : Store} {C : PySem.Str} {fs : List (PySem.Str × D)} (h1 : c Γ S = .ok true S1) (h2 : b Γ S1 = .ex C fs Γ2 S2) : whL c b (n + 1) Γ S = .ex C fs Γ2 S2 := by
  rw [whL]; simp only [h1, h2, bindS_ok, if_true]
theorem stop_core (S : Store) (P H W MV NU t : D) (RK : List D) (MM MM1 : List (List Key × D)) (x : Option Sl) (k : Nat) (rl : RK.length = k) (ml : MM1.length = k + 1) (dp : dPut (.dT MM) t (.int (k : Int)) = some (.dT MM1)) (hk : k = 2400)
    (wm : F_want_at_most [.str "places", .int 2400, .int ((k : Int) + 1)] S = .ex "TooMany" [("limit", .int 2400), ("what", .str "places")] S) :
    wb1_course_of [some (.val P), some (.val H), some (.val W), some (.val MV), some (.val NU), some (.val t), some (.own (.dT MM)), some (.own (.lst RK)), x] S = .ex "TooMany" [("limit", .int 2400), ("what", .str "places")] [some (.val P), some (.val H), some (.val W), some (.val MV), some (.val NU), some (.val t), some (.own (.dT MM1)), some (.own (.lst RK)), x] S := by
  clear hk
  simp [wb1_course_of, rl, dp, ml, wm]
section
variable {L : Int} {ow : List Int} {rows : List (List Mv)} {ht : List (List (Option Int))} {hn : List (List Int)} {wt : List (List (Option Int))} {wn : List (List Int)}
theorem course_stop (S : Store) (T : Tri L ow rows ht hn wt wn) (x : Option Sl) (new : ∀ i, i < 2400 → Orb ow rows ht hn wt wn i ≠ Orb ow rows ht hn wt wn 2400) :
    ∃ Γ', wb1_course_of (stK L ow rows ht hn wt wn 2400 x) S = .ex "TooMany" [("limit", .int 2400), ("what", .str "places")] Γ' S := by
  obtain ⟨k, hk0⟩ : ∃ k : Nat, k = 2400 := ⟨_, rfl⟩
  rw [← hk0] at new ⊢
  generalize ht' : Orb ow rows ht hn wt wn k = t at *
  have wm := want_at_most_no "places" 2400 ((k : Int) + 1) S (by omega)
  have pd : putD (metK (Orb ow rows ht hn wt wn) k) (keyT t) (.int (k : Int)) = metK (Orb ow rows ht hn wt wn) (k + 1) := by
    have := putD_new (f := Orb ow rows ht hn wt wn) k (fun i hi => by rw [ht']; exact new i hi)
    rwa [ht'] at this
  have hl : (metK (Orb ow rows ht hn wt wn) k).length < 16777216 := by rw [metK_length]; omega
  have dp := dPut_t (metK (Orb ow rows ht hn wt wn) k) t.1 t.2.1 t.2.2 (.int (k : Int)) hl
  have dp : dPut (.dT (metK (Orb ow rows ht hn wt wn) k)) (tI3 t) (.int (k : Int)) = some (.dT (metK (Orb ow rows ht hn wt wn) (k + 1))) := by
    rw [← pd]; exact dp
  have ml := metK_length (Orb ow rows ht hn wt wn) (k + 1)
  have rl := rowK_length (ow := ow) (rows := rows) (ht := ht) (hn := hn) (wt := wt) (wn := wn) k
  unfold stK
  rw [ht']
  exact ⟨_, stop_core S _ _ _ _ _ _ _ _ _ x k (by rw [List.length_map]; exact rl) ml dp (by omega) wm⟩
theorem course_loop2 (S : Store) (T : Tri L ow rows ht hn wt wn) (new : ∀ k, k ≤ 2400 → ∀ i, i < k → Orb ow rows ht hn wt wn i ≠ Orb ow rows ht hn wt wn k) : ∀ (d j : Nat) (n : Nat) (x : Option Sl), 2400 - j = d → j ≤ 2400 → d < n →
    ∃ Γ', whL wc1_course_of wb1_course_of n (stK L ow rows ht hn wt wn j x) S = .ex "TooMany" [("limit", .int 2400), ("what", .str "places")] Γ' S := by
  intro d
  induction d with
  | zero =>
    intro j n x hd hj hn'
    obtain rfl : j = 2400 := by omega
    obtain ⟨m, rfl⟩ : ∃ m, n = m + 1 := ⟨n - 1, by omega⟩
    obtain ⟨Γ', e⟩ := course_stop S T x (new 2400 (Nat.le_refl _))
    exact ⟨Γ', whL_ex (course_test S 2400 x true (by rw [valD_none 2400 (new 2400 (Nat.le_refl _))]; rfl)) e⟩
  | succ d ih =>
    intro j n x hd hj hn'
    obtain ⟨m, rfl⟩ : ∃ m, n = m + 1 := ⟨n - 1, by omega⟩
    obtain ⟨x1, e1⟩ := course_step S T j x (by omega) (new j hj)
    obtain ⟨Γ', e2⟩ := ih (j + 1) m x1 (by omega) (by omega) (by omega)
    refine ⟨Γ', ?_⟩
    rw [whL_t (course_test S j x true (by rw [valD_none j (new j hj)]; rfl)) e1]
    exact e2
theorem course_many (S : Store) (T : Tri L ow rows ht hn wt wn) (new : ∀ k, k ≤ 2400 → ∀ i, i < k → Orb ow rows ht hn wt wn i ≠ Orb ow rows ht hn wt wn k) :
    F_course [plD L ow rows, mcD "hand" ht hn, mcD "weather" wt wn] S = .ex "TooMany" [("limit", .int 2400), ("what", .str "places")] S := by
  obtain ⟨Γ', e⟩ := course_loop2 S T new 2400 0 2410 none rfl (by omega) (by omega)
  unfold stK at e
  have mv := moves_of L ow rows S (by have := mvs_le T.P; omega)
  have nu := numbers_of S T.P
  have e0 : metK (Orb ow rows ht hn wt wn) 0 = [] := rfl
  have e1 : rowK ow rows ht hn wt wn 0 = [] := rfl
  have e2 : tI3 (Orb ow rows ht hn wt wn 0) = .tup [.int 0, .int 0, .int 0] := rfl
  rw [e0, e1, e2] at e
  simp only [List.map_nil] at e
  have wm := want_machines S T
  simp [F_course, fnOf, g_course, wm, F_course_of, g_course_of, mv, nu, sWhile, e]
end
end K76
set_option Elab.async false
set_option linter.all false
set_option maxRecDepth 100000
set_option maxHeartbeats 4000000
namespace K76
open PySem L2 DL
/-! ### rounds of a counter -/
def late (f s n : Nat) : Nat := if n < f then n else f + (n - f) % s
theorem mod_succ (a s : Nat) (hs : 1 ≤ s) : (a + 1) % s = if a % s + 1 < s then a % s + 1 else 0 := by
  have h1 := Nat.mod_lt a (show 0 < s by omega)
  have e : (a + 1) % s = (a % s + 1) % s := by rw [Nat.mod_add_mod]
  rw [e]
  split
  · rename_i h; exact Nat.mod_eq_of_lt h
  · rename_i h
    rw [show a % s + 1 = s by omega, Nat.mod_self]
theorem late_lt (f s n : Nat) (hs : 1 ≤ s) : late f s n < f + s := by
  unfold late
  have h1 := Nat.mod_lt (n - f) (show 0 < s by omega)
  split <;> omega
theorem late_succ (f s n : Nat) (hs : 1 ≤ s) : nxF f (f + s) (late f s n) = (late f s (n + 1) : Nat) := by
  have h1 := late_lt f s n hs
  unfold nxF late at *
  by_cases h : n < f
  · rw [if_pos h] at *
    rw [if_pos (by omega)]
    by_cases h2 : n + 1 < f
    · rw [if_pos h2]; omega
    · rw [if_neg h2, show n + 1 - f = 0 by omega, Nat.zero_mod]; omega
  · rw [if_neg h] at *
    rw [if_neg (show ¬ n + 1 < f by omega), show n + 1 - f = (n - f) + 1 by omega, mod_succ _ s hs]
    by_cases h3 : (n - f) % s + 1 < s
    · rw [if_pos (by omega), if_pos h3]; omega
    · rw [if_neg (by omega), if_neg h3]; omega
theorem late_eq {f s i j : Nat} (hs : 1 ≤ s) (hij : i < j) (h : late f s i = late f s j) : f ≤ i ∧ s ∣ (j - i) := by
  unfold late at h
  have h1 := Nat.mod_lt (j - f) (show 0 < s by omega)
  by_cases hi : i < f
  · rw [if_pos hi] at h
    split at h <;> omega
  · rw [if_neg hi, if_neg (by omega)] at h
    have h2 : (j - f) % s = (i - f) % s := by omega
    have h3 := Nat.sub_mod_eq_zero_of_mod_eq h2
    rw [show j - f - (i - f) = j - i by omega] at h3
    exact ⟨by omega, Nat.dvd_of_mod_eq_zero h3⟩
theorem late_per {f s i d : Nat} (hi : f ≤ i) (hd : s ∣ d) : late f s (i + d) = late f s i := by
  unfold late
  rw [if_neg (by omega), if_neg (by omega), show i + d - f = (i - f) + d by omega]
  obtain ⟨c, rfl⟩ := hd
  rw [Nat.add_mul_mod_self_left]
/-! ### the plant of one place each -/
def ow0 : List Int := [0, 1]
def rows0 : List (List Mv) := [[(0, 1)], [(0, 0), (1, 0)]]
def ht0 (n : Nat) : List (List (Option Int)) := List.replicate n [some 0, none]
def wtV (spot i : Nat) : List (Option Int) := [none, some (if i = spot then 1 else 0)]
def wt0 (n spot : Nat) : List (List (Option Int)) := (List.range n).map (wtV spot)
def nx0 (f n : Nat) : List (List Int) := (List.range n).map fun i => [nxF f n i, nxF f n i, nxF f n i]
theorem plOk0 : PlOk 2 ow0 rows0 where
  l1 := by omega
  l4 := by omega
  len := rfl
  n1 := by decide
  n24 := by decide
  own := by decide
  row := by decide
  mv := by decide
  inc := by decide
  tot := by decide
theorem mvs0 : mvs rows0 = [(0, 0, 1), (1, 0, 0), (1, 1, 0)] := by rfl
theorem nums0 : nums rows0 = [[0], [1, 2]] := by rfl
theorem nx0_len (f n : Nat) : (nx0 f n).length = n := by simp [nx0]
theorem nxF_bd (f s i : Nat) (hs : 1 ≤ s) (hi : i < f + s) : 0 ≤ nxF f (f + s) i ∧ nxF f (f + s) i < (f + s : Nat) := by
  unfold nxF
  split <;> omega
theorem hOk0 (f s : Nat) (hs : 1 ≤ s) (h60 : f + s ≤ 60) : MOk ow0 rows0 0 60 (ht0 (f + s)) (nx0 f (f + s)) where
  n1 := by simp [ht0]; omega
  nm := by simpa [ht0] using h60
  len := by simp [ht0, nx0]
  tl := fun t ht => by rw [List.eq_of_mem_replicate ht]; rfl
  tv := fun t ht i o v r h1 h2 h3 => by
    rw [List.eq_of_mem_replicate ht] at h2
    match i with
    | 0 => cases h1; cases h2; cases h3; exact ⟨fun h => absurd rfl h, fun _ => ⟨0, rfl, by omega, by decide⟩⟩
    | 1 => cases h1; cases h2; cases h3; exact ⟨fun _ => rfl, fun h => by omega⟩
    | i + 2 => simp [ow0] at h1
  nl := fun n hn => by
    obtain ⟨i, _, rfl⟩ := List.mem_map.mp hn
    rfl
  nv := fun n hn k hk => by
    obtain ⟨i, hi, rfl⟩ := List.mem_map.mp hn
    have b := nxF_bd f s i hs (List.mem_range.mp hi)
    have : k = nxF f (f + s) i := by simpa using hk
    rw [this]
    simpa [ht0] using b
theorem wOk0 (f s spot : Nat) (hs : 1 ≤ s) (h400 : f + s ≤ 400) : MOk ow0 rows0 1 400 (wt0 (f + s) spot) (nx0 f (f + s)) where
  n1 := by simp [wt0]; omega
  nm := by simpa [wt0] using h400
  len := by simp [wt0, nx0]
  tl := fun t ht => by
    obtain ⟨i, _, rfl⟩ := List.mem_map.mp ht
    rfl
  tv := fun t ht i o v r h1 h2 h3 => by
    obtain ⟨j, _, rfl⟩ := List.mem_map.mp ht
    match i with
    | 0 => cases h1; cases h2; cases h3; exact ⟨fun _ => rfl, fun h => by omega⟩
    | 1 =>
      cases h1; cases h2; cases h3
      refine ⟨fun h => absurd rfl h, fun _ => ⟨_, rfl, ?_, ?_⟩⟩
      · split <;> omega
      · show _ < ((2 : Nat) : Int); split <;> omega
    | i + 2 => simp [ow0] at h1
  nl := fun n hn => by
    obtain ⟨i, _, rfl⟩ := List.mem_map.mp hn
    rfl
  nv := fun n hn k hk => by
    obtain ⟨i, hi, rfl⟩ := List.mem_map.mp hn
    have b := nxF_bd f s i hs (List.mem_range.mp hi)
    have : k = nxF f (f + s) i := by simpa using hk
    rw [this]
    simpa [wt0] using b
theorem tri0 {f s o r spot : Nat} (hs : 1 ≤ s) (hr : 1 ≤ r) (h60 : f + s ≤ 60) (h400 : o + r ≤ 400) : Tri 2 ow0 rows0 (ht0 (f + s)) (nx0 f (f + s)) (wt0 (o + r) spot) (nx0 o (o + r)) :=
  ⟨plOk0, hOk0 f s hs h60, wOk0 o r spot hr h400⟩
section
variable {f s o r spot : Nat}
def sta (f s o r n : Nat) : T3 := (((n % 2 : Nat) : Int), (late f s n : Nat), (late o r n : Nat))
def num0 (o r spot n : Nat) : Int := if n % 2 = 0 then 0 else if late o r n = spot then 2 else 1
theorem gI_range {α : Type} [Inhabited α] (g : Nat → α) {n i : Nat} (h : i < n) : gI ((List.range n).map g) ((i : Nat) : Int) = g i := by
  unfold gI
  rw [List.getD_eq_getElem?_getD, Int.toNat_natCast, List.getElem?_map, List.getElem?_range h]
  rfl
theorem gI_rep {α : Type} [Inhabited α] (g : α) {n i : Nat} (h : i < n) : gI (List.replicate n g) ((i : Nat) : Int) = g := by
  unfold gI
  rw [List.getD_eq_getElem?_getD, Int.toNat_natCast, List.getElem?_replicate, if_pos h]
  rfl
theorem num_sta (hs : 1 ≤ s) (hr : 1 ≤ r) (n : Nat) : num ow0 rows0 (ht0 (f + s)) (wt0 (o + r) spot) (sta f s o r n) = num0 o r spot n := by
  have a := late_lt f s n hs
  have b := late_lt o r n hr
  have e1 := gI_rep [some (0 : Int), none] a
  have e2 := gI_range (wtV spot) b
  unfold num takeV sta num0 ht0 wt0
  rw [nums0]
  simp only
  rw [e1, e2]
  rcases Nat.mod_two_eq_zero_or_one n with h | h
  · rw [h]; rfl
  · rw [h]
    by_cases h3 : late o r n = spot
    · rw [if_neg (by decide), if_pos h3]
      unfold wtV
      rw [if_pos h3]
      rfl
    · rw [if_neg (by decide), if_neg h3]
      unfold wtV
      rw [if_neg h3]
      rfl
theorem nxt_sta (hs : 1 ≤ s) (hr : 1 ≤ r) (n : Nat) : nxt ow0 rows0 (ht0 (f + s)) (nx0 f (f + s)) (wt0 (o + r) spot) (nx0 o (o + r)) (sta f s o r n) = sta f s o r (n + 1) := by
  have a := late_lt f s n hs
  have b := late_lt o r n hr
  have e0 := num_sta (f := f) (o := o) (spot := spot) hs hr n
  have e1 := gI_range (fun i => [nxF f (f + s) i, nxF f (f + s) i, nxF f (f + s) i]) a
  have e2 := gI_range (fun i => [nxF o (o + r) i, nxF o (o + r) i, nxF o (o + r) i]) b
  have s1 := late_succ f s n hs
  have s2 := late_succ o r n hr
  unfold nxt
  rw [e0, mvs0]
  have k : (num0 o r spot n = 0 ∧ n % 2 = 0 ∧ (n + 1) % 2 = 1) ∨ ((num0 o r spot n = 1 ∨ num0 o r spot n = 2) ∧ n % 2 = 1 ∧ (n + 1) % 2 = 0) := by
    unfold num0
    rcases Nat.mod_two_eq_zero_or_one n with h | h
    · left; rw [if_pos h]; exact ⟨rfl, h, by omega⟩
    · right; rw [if_neg (by omega)]; exact ⟨by split <;> simp, h, by omega⟩
  unfold sta nx0
  simp only
  rw [e1, e2, s1, s2]
  rcases k with ⟨k1, k2, k3⟩ | ⟨k1 | k1, k2, k3⟩
  · rw [k1, k3]; rfl
  · rw [k1, k3]; rfl
  · rw [k1, k3]; rfl
theorem Orb_sta (hs : 1 ≤ s) (hr : 1 ≤ r) : ∀ n, Orb ow0 rows0 (ht0 (f + s)) (nx0 f (f + s)) (wt0 (o + r) spot) (nx0 o (o + r)) n = sta f s o r n
  | 0 => by
    rw [Orb_zero]
    unfold sta late
    by_cases h1 : 0 < f <;> by_cases h2 : 0 < o <;> simp [h1, h2] <;> omega
  | n + 1 => by rw [Orb_succ, Orb_sta hs hr n, nxt_sta hs hr n]
def both (s r : Nat) : Nat := Nat.lcm (Nat.lcm s r) 2
theorem both_pos (hs : 1 ≤ s) (hr : 1 ≤ r) : 1 ≤ both s r := Nat.lcm_pos (Nat.lcm_pos (by omega) (by omega)) (by omega)
theorem sta_new (hs : 1 ≤ s) (hr : 1 ≤ r) {i k : Nat} (hik : i < k) (h : sta f s o r i = sta f s o r k) : max f o ≤ i ∧ both s r ∣ (k - i) := by
  unfold sta at h
  simp only [Prod.mk.injEq] at h
  obtain ⟨h1, h2, h3⟩ := h
  have a := late_eq hs hik (by omega : late f s i = late f s k)
  have b := late_eq hr hik (by omega : late o r i = late o r k)
  exact ⟨Nat.max_le.mpr ⟨a.1, b.1⟩, Nat.lcm_dvd (Nat.lcm_dvd a.2 b.2) (by omega)⟩
theorem ring0 (hs : 1 ≤ s) (hr : 1 ≤ r) : Ring (Orb ow0 rows0 (ht0 (f + s)) (nx0 f (f + s)) (wt0 (o + r) spot) (nx0 o (o + r))) (max f o + both s r) (max f o) where
  lt := by have := both_pos hs hr; omega
  eq := by
    rw [Orb_sta hs hr, Orb_sta hs hr]
    have d0 : Nat.lcm s r ∣ both s r := Nat.dvd_lcm_left _ _
    have d1 : s ∣ both s r := Nat.dvd_trans (Nat.dvd_lcm_left _ _) d0
    have d2 : r ∣ both s r := Nat.dvd_trans (Nat.dvd_lcm_right _ _) d0
    have d3 : 2 ∣ both s r := Nat.dvd_lcm_right _ _
    unfold sta
    rw [late_per (Nat.le_max_left f o) d1, late_per (Nat.le_max_right f o) d2]
    have : (max f o + both s r) % 2 = max f o % 2 := by omega
    rw [this]
  new := fun k hk i hi e => by
    rw [Orb_sta hs hr, Orb_sta hs hr] at e
    obtain ⟨h1, h2⟩ := sta_new hs hr hi e
    have := Nat.le_of_dvd (by omega) h2
    omega
theorem new0 (hs : 1 ≤ s) (hr : 1 ≤ r) (hb : 2400 < max f o + both s r) : ∀ k, k ≤ 2400 → ∀ i, i < k → Orb ow0 rows0 (ht0 (f + s)) (nx0 f (f + s)) (wt0 (o + r) spot) (nx0 o (o + r)) i ≠ Orb ow0 rows0 (ht0 (f + s)) (nx0 f (f + s)) (wt0 (o + r) spot) (nx0 o (o + r)) k :=
  fun k hk i hi => (ring0 hs hr).new k (by omega) i hi
/-- the letter at a tick -/
def due (o r spot i : Nat) : Int := if i % 2 = 1 ∧ late o r i = spot then 1 else 0
theorem ind_row (hs : 1 ≤ s) (hr : 1 ≤ r) (N : Nat) : ind rows0 1 (rowK ow0 rows0 (ht0 (f + s)) (nx0 f (f + s)) (wt0 (o + r) spot) (nx0 o (o + r)) N) = (List.range N).map (due o r spot) := by
  unfold ind rowK
  rw [List.map_map]
  refine List.map_congr_left fun i _ => ?_
  show (if (gI (mvs rows0) (num ow0 rows0 (ht0 (f + s)) (wt0 (o + r) spot) (Orb ow0 rows0 (ht0 (f + s)) (nx0 f (f + s)) (wt0 (o + r) spot) (nx0 o (o + r)) i))).2.1 = 1 then (1 : Int) else 0) = _
  rw [Orb_sta hs hr, num_sta hs hr, mvs0]
  rcases Nat.mod_two_eq_zero_or_one i with h | h
  · have e1 : num0 o r spot i = 0 := by unfold num0; rw [if_pos h]
    have e2 : due o r spot i = 0 := by unfold due; exact if_neg (fun z => by omega)
    rw [e1, e2]; rfl
  · by_cases h3 : late o r i = spot
    · have e1 : num0 o r spot i = 2 := by unfold num0; rw [if_neg (by omega), if_pos h3]
      have e2 : due o r spot i = 1 := by unfold due; exact if_pos ⟨h, h3⟩
      rw [e1, e2]; rfl
    · have e1 : num0 o r spot i = 1 := by unfold num0; rw [if_neg (by omega), if_neg h3]
      have e2 : due o r spot i = 0 := by unfold due; exact if_neg (fun z => h3 z.2)
      rw [e1, e2]; rfl
end
end K76
set_option Elab.async false
set_option linter.all false
set_option maxRecDepth 100000
set_option maxHeartbeats 4000000
namespace K76
open PySem L2 DL
def tailG : Es := sSeq (sTryAs 13 "TooMany" (sSet 12 (eCall F_course (aCons (eV 1) (aCons (eV 6) (aCons (eV 7) (aNil)))))) (fun fs => sSet 12 (eLs (aCons (eFld "what" fs) (aCons (eFld "limit" fs) (aCons (eC (.bl true)) (aNil))))))) (sSeq (sIf (toB (eBin2 oGt (eBin2 oAdd (eVb 11) (eVb 10)) (eC (.int 2400)))) (sRt (eBin2 oEq (eFn bRepr (aCons (eVb 12) (aNil))) (eFn bRepr (aCons (eFrz (nLst (aCons (eC (.str "places")) (aCons (eC (.int 2400)) (aCons (eC (.bl true)) (aNil)))))) (aNil))))) (sNx)) (sSeq (sIf (toB (eBin2 oNe (eFn bRepr (aCons (eFrz (nLst (aCons (eFn bLen (aCons (eBin2 oIx (eVb 12) (eC (.int 0))) (aNil))) (aCons (eFn bLen (aCons (eBin2 oIx (eVb 12) (eC (.int 1))) (aNil))) (aNil))))) (aNil))) (eFn bRepr (aCons (eFrz (nLst (aCons (eV 11) (aCons (eV 10) (aNil))))) (aNil))))) (sRt (eC (.bl false))) (sNx)) (sSeq (sSet 14 (eFrz (nLc (iRange (aCons (eBin2 oAdd (eVb 11) (eVb 10)) (aNil))) [17] (lt3__law_counters_right) (bYes) (lf3__law_counters_right)))) (sSeq (sSet 15 (eCall F__law_great (aCons (eV 0) (aNil)))) (sRt (eBin2 oEq (eCall F_counted (aCons (eV 1) (aCons (eV 6) (aCons (eV 7) (aCons (eC (.int 1)) (aCons (eV 15) (aNil))))))) (eCall F__law_sum (aCons (eV 14) (aCons (eV 11) (aCons (eV 10) (aCons (eV 15) (aNil))))))))))))
def pl0 : D := .tup [.str "plant", .int 2, .tup [.int 0, .int 1], .tup [.tup [.tup [.int 0, .int 1]], .tup [.tup [.int 0, .int 0], .tup [.int 1, .int 0]]]]
theorem cr_head {S0 S1 S2 S3 S4 S5 : Store} {f s1 o r1 dd ss rr spot g gg l1 bb ll mx : Int} {TH NH TW NW A B NW3 NH3 : List D}
    (d1 : F__law_draw [.loc 0, .int 20] S0 = .ok (.int f) S1) (d2 : F__law_draw [.loc 0, .int 40] S1 = .ok (.int s1) S2)
    (d3 : F__law_pick [.loc 0, .lst [.int 0, .int 0, .int 117, .int 300]] S2 = .ok (.int o) S3) (d4 : F__law_draw [.loc 0, .int 60] S3 = .ok (.int r1) S4)
    (es : 1 + s1 = ss) (er : 1 + r1 = rr) (esp : o + dd = spot)
    (c1 : F__law_counter [.str "hand", .tup [.int 0, .non], .int f, .int ss] S4 = .ok (.tup [.str "hand", .tup TH, .tup NH]) S4)
    (c2 : F__law_counter [.str "weather", .tup [.non, .int 0], .int o, .int rr] S4 = .ok (.tup [.str "weather", .tup TW, .tup NW]) S4)
    (d5 : F__law_draw [.loc 0, .int rr] S4 = .ok (.int dd) S5)
    (u1 : cutD TW none (some spot) = A) (u2 : cutD TW (some (spot + 1)) none = B) (la : A.length + 1 ≤ 16777216) (lb : A.length + 1 + B.length ≤ 16777216) (lnw : NW.length ≤ 16777216) (lnh : NH.length ≤ 16777216)
    (lc1 : ∀ Γ6 Γ7, lcL lt1__law_counters_right bYes lf1__law_counters_right [some (.val (.loc 0)), some (.val pl0), some (.val (.int f)), some (.val (.int ss)), some (.val (.int o)), some (.val (.int rr)), Γ6, Γ7, some (.val (.int spot)), none, none, none, none, none, none, none, none, none] NW S5 = .ok NW3 S5)
    (lc2 : ∀ Γ6 Γ7 Γ9, lcL lt2__law_counters_right bYes lf2__law_counters_right [some (.val (.loc 0)), some (.val pl0), some (.val (.int f)), some (.val (.int ss)), some (.val (.int o)), some (.val (.int rr)), Γ6, Γ7, some (.val (.int spot)), Γ9, none, none, none, none, none, none, none, none] NH S5 = .ok NH3 S5)
    (g1 : F__law_gcd [.int ss, .int rr] S5 = .ok (.int g) S5) (m1 : mulOk ss rr = true) (v1 : divOk (ss * rr) g = true) (e1 : ss * rr / g = l1)
    (g2 : F__law_gcd [.int l1, .int 2] S5 = .ok (.int gg) S5) (m2 : mulOk l1 2 = true) (v2 : divOk (l1 * 2) gg = true) (e2 : l1 * 2 / gg = bb) (em : (if o > f then o else f) = mx) :
    g__law_counters_right [some (.val (.loc 0)), none, none, none, none, none, none, none, none, none, none, none, none, none, none, none, none, none] S0 = tailG [some (.val (.loc 0)), some (.val pl0), some (.val (.int f)), some (.val (.int ss)), some (.val (.int o)), some (.val (.int rr)), some (.val (.tup [.str "hand", .tup TH, .tup NH3])), some (.val (.tup [.str "weather", .tup (A ++ [.tup [.non, .int 1]] ++ B), .tup NW3])), some (.val (.int spot)), some (.val (.lst NW3)), some (.val (.int bb)), some (.val (.int mx)), some (.val .non), none, none, none, none, none] S5 := by
  simp only [pl0] at lc1 lc2 ⊢
  subst em
  simp [g__law_counters_right, tailG, d1, d2, d3, d4, es, er, esp, c1, c2, d5, u1, u2, la, lb, lnw, lnh, lc1, lc2, g1, m1, v1, e1, g2, m2, v2, e2]
end K76
set_option Elab.async false
set_option linter.all false
set_option maxRecDepth 100000
set_option maxHeartbeats 4000000
namespace K76
open PySem L2 DL
def tlG (f ss o rr spot bb mx : Int) (H W N : D) : Gm := [some (.val (.loc 0)), some (.val pl0), some (.val (.int f)), some (.val (.int ss)), some (.val (.int o)), some (.val (.int rr)), some (.val H), some (.val W), some (.val (.int spot)), some (.val N), some (.val (.int bb)), some (.val (.int mx)), some (.val .non), none, none, none, none, none]
theorem tail_many {S : Store} {f ss o rr spot bb mx : Int} {H W N : D} {x : PySem.Str} (co : F_course [pl0, H, W] S = .ex "TooMany" [("limit", .int 2400), ("what", .str "places")] S) (hb : 2400 < mx + bb)
    (rp : bRepr S [.lst [.str "places", .int 2400, .bl true]] = some (.str x)) : tailG (tlG f ss o rr spot bb mx H W N) S = .rt (.bl true) S := by
  have l1 : List.lookup ("what" : PySem.Str) ([("limit", D.int 2400), ("what", D.str "places")] : List (PySem.Str × D)) = some (D.str "places") := rfl
  have l2 : List.lookup ("limit" : PySem.Str) ([("limit", D.int 2400), ("what", D.str "places")] : List (PySem.Str × D)) = some (D.int 2400) := rfl
  unfold tlG
  simp [tailG, sTryAs, co, hb, rp, l1, l2]
theorem tail_ok {S S2 : Store} {f ss o rr spot bb mx m v : Int} {n : Nat} {H W N : D} {x : PySem.Str} {hd lp zs du : List D} (co : F_course [pl0, H, W] S = .ok (.tup [.lst hd, .lst lp]) S) (hb : ¬ 2400 < mx + bb)
    (lh : (hd.length : Int) = mx) (ll : (lp.length : Int) = bb) (rp : bRepr S [.lst [.int mx, .int bb]] = some (.str x)) (rg : rangeD [.int (mx + bb)] = some zs) (lz : zs.length ≤ 16777216)
    (lc : ∀ Γ10 Γ11 Γ12, lcL lt3__law_counters_right bYes lf3__law_counters_right [some (.val (.loc 0)), some (.val pl0), some (.val (.int f)), some (.val (.int ss)), some (.val (.int o)), some (.val (.int rr)), some (.val H), some (.val W), some (.val (.int spot)), some (.val N), Γ10, Γ11, Γ12, none, none, none, none, none] zs S = .ok du S)
    (gr : F__law_great [.loc 0] S = .ok (.int m) S2) (ct : F_counted [pl0, H, W, .int 1, .int m] S2 = .ok (.int v) S2) (ls : F__law_sum [.lst du, .int mx, .int bb, .int m] S2 = .ok (.int v) S2) :
    tailG (tlG f ss o rr spot bb mx H W N) S = .rt (.bl true) S2 := by
  unfold tlG
  simp [tailG, sTryAs, co, hb, rp, lh, ll, rg, lz, lc, gr, ct, ls]
end K76
set_option Elab.async false
set_option linter.all false
set_option maxRecDepth 100000
set_option maxHeartbeats 4000000
namespace K76
open PySem L2 DL
theorem row3 (v : Int) (S : Store) (Γ0 Γ1 Γ2 Γ3 Γ4 Γ5 Γ6 Γ7 Γ8 Γ9 Γ10 Γ11 Γ12 Γ13 Γ14 Γ15 Γ17 : Option Sl) : lf1__law_counters_right [Γ0, Γ1, Γ2, Γ3, Γ4, Γ5, Γ6, Γ7, Γ8, Γ9, Γ10, Γ11, Γ12, Γ13, Γ14, Γ15, some (.val (.tup [.int v, .int v])), Γ17] S = .ok (.tup [.int v, .int v, .int v]) S := by
  have c : cutD [D.int v, D.int v] none (some 1) = [D.int v] := @cutD_to [D.int v, D.int v] 1
  simp [lf1__law_counters_right, c]
theorem nexts3 (f n : Nat) (S : Store) (Γ0 Γ1 Γ2 Γ3 Γ4 Γ5 Γ6 Γ7 Γ8 Γ9 Γ10 Γ11 Γ12 Γ13 Γ14 Γ15 Γ17 : Option Sl) : lcL lt1__law_counters_right bYes lf1__law_counters_right [Γ0, Γ1, Γ2, Γ3, Γ4, Γ5, Γ6, Γ7, Γ8, Γ9, Γ10, Γ11, Γ12, Γ13, Γ14, Γ15, none, Γ17] ((List.range n).map fun i => .tup [.int (nxF f n i), .int (nxF f n i)]) S = .ok ((nx0 f n).map nxD) S := by
  have := lcL_all (t := lt1__law_counters_right) (f := lf1__law_counters_right) (S := S) (fun i => D.tup [.int (nxF f n i), .int (nxF f n i)]) (fun i => D.tup [.int (nxF f n i), .int (nxF f n i), .int (nxF f n i)]) (List.range n) (Γ := [Γ0, Γ1, Γ2, Γ3, Γ4, Γ5, Γ6, Γ7, Γ8, Γ9, Γ10, Γ11, Γ12, Γ13, Γ14, Γ15, none, Γ17]) fun i _ => by
    have e : lt1__law_counters_right.run (D.tup [.int (nxF f n i), .int (nxF f n i)]) [Γ0, Γ1, Γ2, Γ3, Γ4, Γ5, Γ6, Γ7, Γ8, Γ9, Γ10, Γ11, Γ12, Γ13, Γ14, Γ15, none, Γ17] = some [Γ0, Γ1, Γ2, Γ3, Γ4, Γ5, Γ6, Γ7, Γ8, Γ9, Γ10, Γ11, Γ12, Γ13, Γ14, Γ15, some (.val (D.tup [.int (nxF f n i), .int (nxF f n i)])), Γ17] := by simp [lt1__law_counters_right]
    rw [e]
    exact row3 _ _ _ _ _ _ _ _ _ _ _ _ _ _ _ _ _ _ _
  rw [this]
  unfold nx0
  rw [List.map_map]
  rfl
theorem lt_same : lt2__law_counters_right = lt1__law_counters_right := rfl
theorem lf_same : lf2__law_counters_right = lf1__law_counters_right := rfl
theorem wt0_eq (n spot : Nat) (h : spot < n) : (List.replicate n (D.tup [.non, .int 0])).take spot ++ [D.tup [.non, .int 1]] ++ (List.replicate n (D.tup [.non, .int 0])).drop (spot + 1) = (wt0 n spot).map tkD := by
  unfold wt0
  rw [List.map_map]
  apply List.ext_getElem
  · simp; omega
  · intro i h1 h2
    simp at h2
    rw [List.getElem_map, List.getElem_range]
    show _ = tkD (wtV spot i)
    unfold wtV
    by_cases hi : i < spot
    · rw [List.getElem_append_left (by simp; omega), List.getElem_append_left (by simp; omega), List.getElem_take, List.getElem_replicate, if_neg (by omega)]
      rfl
    · by_cases he : i = spot
      · subst he
        rw [List.getElem_append_left (by simp; omega), List.getElem_append_right (by simp; omega), if_pos rfl]
        simp [tkD, opD]
      · rw [List.getElem_append_right (by simp; omega), List.getElem_drop, List.getElem_replicate, if_neg he]
        rfl
theorem due_one (S : Store) (o r spot i : Nat) (Γ0 Γ1 Γ2 Γ3 Γ6 Γ7 Γ9 Γ10 Γ11 Γ12 Γ13 Γ14 Γ15 Γ16 : Option Sl) (hr : 1 ≤ r) : lf3__law_counters_right [Γ0, Γ1, Γ2, Γ3, some (.val (.int (o : Int))), some (.val (.int (r : Int))), Γ6, Γ7, some (.val (.int (spot : Int))), Γ9, Γ10, Γ11, Γ12, Γ13, Γ14, Γ15, Γ16, some (.val (.int (i : Int)))] S = .ok (.int (due o r spot i)) S := by
  by_cases h : i % 2 = 1
  · have h' : (i : Int) % 2 = 1 := by omega
    have l : (if (i : Int) < (o : Int) then (i : Int) else (o : Int) + ((i : Int) - (o : Int)) % (r : Int)) = ((late o r i : Nat) : Int) := by
      unfold late
      by_cases hi : i < o
      · rw [if_pos (by omega), if_pos hi]
      · rw [if_neg (by omega), if_neg hi, show (i : Int) - (o : Int) = ((i - o : Nat) : Int) by omega, ← Int.natCast_emod]
        omega
    have d : due o r spot i = if ((late o r i : Nat) : Int) = (spot : Int) then 1 else 0 := by
      unfold due
      by_cases hl : late o r i = spot
      · rw [if_pos ⟨h, hl⟩, if_pos (by omega)]
      · rw [if_neg (fun z => hl z.2), if_neg (by omega)]
    rw [d, ← l]
    have hr' : (0 : Int) < (r : Int) := by omega
    clear l d h
    generalize (i : Int) = ii at *
    generalize (o : Int) = oo at *
    generalize (r : Int) = rr at *
    generalize (spot : Int) = sp at *
    by_cases hi : ii < oo
    · simp [lf3__law_counters_right, h', hi]
    · simp [lf3__law_counters_right, h', hi, hr']
  · have h' : ¬ (i : Int) % 2 = 1 := by omega
    have d : due o r spot i = 0 := by unfold due; exact if_neg (fun z => h z.1)
    rw [d]
    clear d h
    generalize (i : Int) = ii at *
    generalize (o : Int) = oo at *
    generalize (r : Int) = rr at *
    generalize (spot : Int) = sp at *
    simp [lf3__law_counters_right, h']
theorem dues (S : Store) (o r spot n : Nat) (Γ0 Γ1 Γ2 Γ3 Γ6 Γ7 Γ9 Γ10 Γ11 Γ12 Γ13 Γ14 Γ15 Γ16 : Option Sl) (hr : 1 ≤ r) : lcL lt3__law_counters_right bYes lf3__law_counters_right [Γ0, Γ1, Γ2, Γ3, some (.val (.int (o : Int))), some (.val (.int (r : Int))), Γ6, Γ7, some (.val (.int (spot : Int))), Γ9, Γ10, Γ11, Γ12, Γ13, Γ14, Γ15, Γ16, none] (rngD 0 n) S = .ok (((List.range n).map (due o r spot)).map .int) S := by
  have er : rngD 0 n = (List.range n).map fun i : Nat => D.int (i : Int) := by
    rw [rngD_eq]
    refine List.map_congr_left fun i _ => ?_
    rw [Int.zero_add]
  rw [er]
  have := lcL_all (t := lt3__law_counters_right) (f := lf3__law_counters_right) (S := S) (fun i : Nat => D.int (i : Int)) (fun i => D.int (due o r spot i)) (List.range n) (Γ := [Γ0, Γ1, Γ2, Γ3, some (.val (.int (o : Int))), some (.val (.int (r : Int))), Γ6, Γ7, some (.val (.int (spot : Int))), Γ9, Γ10, Γ11, Γ12, Γ13, Γ14, Γ15, Γ16, none]) fun i _ => by
    have e : lt3__law_counters_right.run (D.int (i : Int)) [Γ0, Γ1, Γ2, Γ3, some (.val (.int (o : Int))), some (.val (.int (r : Int))), Γ6, Γ7, some (.val (.int (spot : Int))), Γ9, Γ10, Γ11, Γ12, Γ13, Γ14, Γ15, Γ16, none] = some [Γ0, Γ1, Γ2, Γ3, some (.val (.int (o : Int))), some (.val (.int (r : Int))), Γ6, Γ7, some (.val (.int (spot : Int))), Γ9, Γ10, Γ11, Γ12, Γ13, Γ14, Γ15, Γ16, some (.val (.int (i : Int)))] := by simp [lt3__law_counters_right]
    rw [e]
    exact due_one S o r spot i _ _ _ _ _ _ _ _ _ _ _ _ _ _ hr
  rw [this, List.map_map]
  rfl
theorem repr_tm (S : Store) : ∃ x, bRepr S [.lst [.str "places", .int 2400, .bl true]] = some (.str x) :=
  ⟨_, repr_of S _ (.list [.str "places", .int 2400, .bool true]) rfl (by simp [pyS, pySL]) (by simp only [okP, okPs]; exact ⟨by decide +kernel, by decide, trivial, trivial⟩) (by simp [PyData.depth, PyData.depthAll]) (by simp [cnt, cnts])⟩
theorem repr_2 (S : Store) (a c : Int) (ha : a.natAbs < 10 ^ 31) (hc : c.natAbs < 10 ^ 31) : ∃ x, bRepr S [.lst [.int a, .int c]] = some (.str x) :=
  ⟨_, repr_of S _ (.list [.int a, .int c]) rfl (by simp [pyS, pySL]) (by simp only [okP, okPs]; exact ⟨ha, hc, trivial⟩) (by simp [PyData.depth, PyData.depthAll]) (by simp [cnt, cnts])⟩
end K76
set_option Elab.async false
set_option linter.all false
set_option maxRecDepth 100000
set_option maxHeartbeats 4000000
namespace K76
open PySem L2 DL
theorem gcd_le (s r : Nat) (hs : 1 ≤ s) : 1 ≤ Nat.gcd s r ∧ Nat.gcd s r ≤ s := ⟨Nat.gcd_pos_of_pos_left _ (by omega), Nat.gcd_le_left _ (by omega)⟩
theorem lcm_nat (s r : Nat) : ((s : Int) * (r : Int)) / ((Nat.gcd s r : Nat) : Int) = ((Nat.lcm s r : Nat) : Int) := by
  rw [← Int.natCast_mul, ← Int.natCast_ediv]
  rfl
theorem lcm_le (s r : Nat) : Nat.lcm s r ≤ s * r := Nat.div_le_self _ _
theorem hand_tk (n : Nat) : List.replicate n (D.tup [.int 0, .non]) = (ht0 n).map tkD := by
  unfold ht0
  rw [List.map_replicate]
  rfl
theorem max_int (f o : Nat) : (if (o : Int) > (f : Int) then (o : Int) else (f : Int)) = ((max f o : Nat) : Int) := by
  by_cases h : f < o
  · rw [if_pos (by omega), Nat.max_eq_right (by omega)]
  · rw [if_neg (by omega), Nat.max_eq_left (by omega)]
theorem law_counters_right {S R : Store} (hp : Pot S R) : ∃ S', F__law_counters_right [.loc 0] S = .ok (.bl true) S' := by
  obtain ⟨f', S1, d1, hp1, f0, f1⟩ := draw hp (m := 20) (by omega) (by omega)
  obtain ⟨s', S2, d2, hp2, s0, s1⟩ := draw hp1 (m := 40) (by omega) (by omega)
  obtain ⟨o', S3, d3, hp3, o0⟩ := law_pick hp2 [0, 0, 117, 300] (by simp) (by simp)
  obtain ⟨r', S4, d4, hp4, r0, r1⟩ := draw hp3 (m := 60) (by omega) (by omega)
  obtain ⟨f, rfl⟩ : ∃ n : Nat, f' = (n : Int) := ⟨f'.toNat, by omega⟩
  obtain ⟨s, hs⟩ : ∃ n : Nat, 1 + s' = (n : Int) := ⟨(1 + s').toNat, by omega⟩
  obtain ⟨r, hr⟩ : ∃ n : Nat, 1 + r' = (n : Int) := ⟨(1 + r').toNat, by omega⟩
  have ob : 0 ≤ o' ∧ o' ≤ 300 := by
    simp at o0
    omega
  obtain ⟨o, rfl⟩ : ∃ n : Nat, o' = (n : Int) := ⟨o'.toNat, by omega⟩
  have hs1 : 1 ≤ s := by omega
  have hr1 : 1 ≤ r := by omega
  obtain ⟨dd, S5, d5, hp5, dd0, dd1⟩ := draw hp4 (m := (r : Int)) (by omega) (by omega)
  obtain ⟨spot, hsp⟩ : ∃ n : Nat, (o : Int) + dd = (n : Int) := ⟨((o : Int) + dd).toNat, by omega⟩
  have c1 := law_counter S4 "hand" (.tup [.int 0, .non]) f s hs1 (by omega)
  have c2 := law_counter S4 "weather" (.tup [.non, .int 0]) o r hr1 (by omega)
  have n1 := fun Γ6 Γ7 => nexts3 o (o + r) S5 (some (.val (.loc 0))) (some (.val pl0)) (some (.val (.int (f : Int)))) (some (.val (.int (s : Int)))) (some (.val (.int (o : Int)))) (some (.val (.int (r : Int)))) Γ6 Γ7 (some (.val (.int (spot : Int)))) none none none none none none none none
  have n2 := fun Γ6 Γ7 Γ9 => nexts3 f (f + s) S5 (some (.val (.loc 0))) (some (.val pl0)) (some (.val (.int (f : Int)))) (some (.val (.int (s : Int)))) (some (.val (.int (o : Int)))) (some (.val (.int (r : Int)))) Γ6 Γ7 (some (.val (.int (spot : Int)))) Γ9 none none none none none none none
  have g1 := law_gcd S5 s r (by omega) (by omega)
  rw [gcd_small s (by omega) r (by omega)] at g1
  obtain ⟨ga, gb⟩ := gcd_le s r hs1
  have lle := lcm_le s r
  have srle : s * r ≤ 40 * 60 := Nat.mul_le_mul (by omega) (by omega)
  have g2 := law_gcd S5 (Nat.lcm s r) 2 (by omega) (by omega)
  rw [gcd_two] at g2
  obtain ⟨gc, gd⟩ := gcd_le (Nat.lcm s r) 2 (Nat.lcm_pos (by omega) (by omega))
  have u1 : cutD (List.replicate (o + r) (D.tup [.non, .int 0])) none (some (spot : Int)) = _ := cutD_to spot
  have u2 : cutD (List.replicate (o + r) (D.tup [.non, .int 0])) (some ((spot : Int) + 1)) none = _ := cutD_from (spot + 1)
  have hd := cr_head (S0 := S) (ll := 0) (TH := List.replicate (f + s) (.tup [.int 0, .non])) d1 d2 d3 d4 hs hr hsp c1 c2 d5 u1 u2 (by simp; omega) (by simp; omega) (by simp; omega) (by simp; omega) n1 n2 g1 (mulOk_small (by omega) (by omega)) (divOk_of (by omega) (by omega)) (lcm_nat s r) g2 (mulOk_small (by omega) (by omega)) (divOk_of (by omega) (by omega)) (lcm_nat (Nat.lcm s r) 2) (max_int f o)
  rw [wt0_eq (o + r) spot (by omega), hand_tk] at hd
  have T := tri0 (f := f) (s := s) (o := o) (r := r) (spot := spot) hs1 hr1 (by omega) (by omega)
  have fin : ∃ S', tailG (tlG f s o r spot ((Nat.lcm (Nat.lcm s r) 2 : Nat) : Int) ((max f o : Nat) : Int) (mcD "hand" (ht0 (f + s)) (nx0 f (f + s))) (mcD "weather" (wt0 (o + r) spot) (nx0 o (o + r))) (.lst ((nx0 o (o + r)).map nxD))) S5 = .rt (.bl true) S' := by
    have hpl : pl0 = plD 2 ow0 rows0 := rfl
    have eb : both s r = Nat.lcm (Nat.lcm s r) 2 := rfl
    rw [← eb]
    by_cases hb : 2400 < max f o + both s r
    · obtain ⟨x, rp⟩ := repr_tm S5
      have co := course_many S5 T (new0 hs1 hr1 hb)
      rw [← hpl] at co
      exact ⟨S5, tail_many co (by omega) rp⟩
    · have rg := ring0 (f := f) (s := s) (o := o) (r := r) (spot := spot) hs1 hr1
      have hN : max f o + both s r ≤ 2400 := by omega
      have bp := both_pos hs1 hr1
      obtain ⟨x, rp⟩ := repr_2 S5 ((max f o : Nat) : Int) ((both s r : Nat) : Int) (by omega) (by omega)
      obtain ⟨m, S6, gr, hp6, m0, m1⟩ := law_great hp5
      have co := course S5 T hN rg
      have ct := counted S6 T hN rg m0 m1 (x := 1) (by omega) (by omega)
      have i1 : ind rows0 1 ((rowK ow0 rows0 (ht0 (f + s)) (nx0 f (f + s)) (wt0 (o + r) spot) (nx0 o (o + r)) (max f o + both s r)).take (max f o)) = ((List.range (max f o + both s r)).map (due o r spot)).take (max f o) := by
        rw [← ind_row (f := f) (s := s) (o := o) (r := r) (spot := spot) hs1 hr1]
        unfold ind
        rw [List.map_take]
      have i2 : ind rows0 1 ((rowK ow0 rows0 (ht0 (f + s)) (nx0 f (f + s)) (wt0 (o + r) spot) (nx0 o (o + r)) (max f o + both s r)).drop (max f o)) = ((List.range (max f o + both s r)).map (due o r spot)).drop (max f o) := by
        rw [← ind_row (f := f) (s := s) (o := o) (r := r) (spot := spot) hs1 hr1]
        unfold ind
        rw [List.map_drop]
      rw [i1, i2, ← hpl] at ct
      rw [← hpl] at co
      have d01 : ∀ y ∈ ((List.range (max f o + both s r)).map (due o r spot)).drop (max f o), y = 0 ∨ y = 1 := fun y hy => by
        obtain ⟨i, _, rfl⟩ := List.mem_map.mp (List.mem_of_mem_drop hy)
        unfold due
        split <;> simp
      obtain ⟨q0, q1⟩ := sum01 _ d01
      have dl : (((List.range (max f o + both s r)).map (due o r spot)).drop (max f o)).length = both s r := by simp
      have tk : (((List.range (max f o + both s r)).map (due o r spot)).drop (max f o)).take (both s r) = ((List.range (max f o + both s r)).map (due o r spot)).drop (max f o) := List.take_of_length_le (by omega)
      have ls := law_sum S6 ((List.range (max f o + both s r)).map (due o r spot)) ((max f o : Nat) : Int) ((both s r : Nat) : Int) m m0 (by omega) (by omega) (by omega) (by simp) (by rw [Int.toNat_natCast, Int.toNat_natCast, tk]; omega) (by rw [Int.toNat_natCast, Int.toNat_natCast, tk]; omega)
      rw [Int.toNat_natCast, Int.toNat_natCast, tk] at ls
      have rk := rowK_length (ow := ow0) (rows := rows0) (ht := ht0 (f + s)) (hn := nx0 f (f + s)) (wt := wt0 (o + r) spot) (wn := nx0 o (o + r)) (max f o + both s r)
      have rng : rangeD [.int (((max f o : Nat) : Int) + ((both s r : Nat) : Int))] = some (rngD 0 (max f o + both s r)) := by
        have := range1 (n := ((max f o : Nat) : Int) + ((both s r : Nat) : Int)) (by omega) (by omega)
        rwa [show (((max f o : Nat) : Int) + ((both s r : Nat) : Int)).toNat = max f o + both s r by omega] at this
      exact ⟨S6, tail_ok (n := 0) co (by omega) (by rw [List.length_map, List.length_take, rk]; omega) (by rw [List.length_map, List.length_drop, rk]; omega) rp rng (by rw [rngD_eq]; simp; omega)
        (fun Γ10 Γ11 Γ12 => dues S5 o r spot _ _ _ _ _ _ _ _ _ _ _ _ _ _ _ hr1) gr ct ls⟩
  obtain ⟨S', fin⟩ := fin
  refine ⟨S', ?_⟩
  unfold tlG at fin
  show (match g__law_counters_right (ini 18 [.loc 0]) S with | .rt d S' => RE.ok d S' | .nx _ S' => .ok .non S' | .ex C fs _ S' => .ex C fs S' | _ => .no) = _
  have ei : ini 18 [D.loc 0] = [some (.val (.loc 0)), none, none, none, none, none, none, none, none, none, none, none, none, none, none, none, none, none] := rfl
  rw [ei, hd]
  have e2 : tailG _ S5 = _ := fin
  rw [show (D.tup [.str "hand", .tup ((ht0 (f + s)).map tkD), .tup ((nx0 f (f + s)).map nxD)]) = mcD "hand" (ht0 (f + s)) (nx0 f (f + s)) from rfl, show (D.tup [.str "weather", .tup ((wt0 (o + r) spot).map tkD), .tup ((nx0 o (o + r)).map nxD)]) = mcD "weather" (wt0 (o + r) spot) (nx0 o (o + r)) from rfl, fin]
end K76
set_option Elab.async false
set_option linter.all false
set_option maxRecDepth 100000
set_option maxHeartbeats 4000000
namespace K76
open PySem L2 DL
theorem law_step {S0 S1 S2 S3 S4 S5 S6 S7 S8 : Store} {l n h w : Int} {sc t x3 x4 x5 : Option Sl} {P H W : D}
    (d1 : F__law_draw [.loc 0, .int 4] S0 = .ok (.int l) S1) (d2 : F__law_draw [.loc 0, .int 6] S1 = .ok (.int n) S2) (pl : F__law_plant [.loc 0, .int (1 + l), .int (1 + n)] S2 = .ok P S3)
    (d3 : F__law_draw [.loc 0, .int 8] S3 = .ok (.int h) S4) (hd : F__law_machine [.loc 0, P, .int 0, .int (1 + h)] S4 = .ok H S5)
    (d4 : F__law_draw [.loc 0, .int 12] S5 = .ok (.int w) S6) (we : F__law_machine [.loc 0, P, .int 1, .int (1 + w)] S6 = .ok W S7)
    (cr : F__law_course_right [.loc 0, P, H, W, .int 578] S7 = .ok (.bl true) S8) :
    b1_law [sc, some (.val (.loc 0)), t, x3, x4, x5] S0 = .nx [sc, some (.val (.loc 0)), t, some (.val P), some (.val H), some (.val W)] S8 := by
  have m1 : mulOk 6 8 = true := by decide
  have m2 : mulOk 48 12 = true := by decide
  simp [b1_law, d1, d2, pl, d3, hd, d4, we, cr, m1, m2]
theorem law_turn {S R : Store} (hp : Pot S R) (sc t x3 x4 x5 : Option Sl) : ∃ x3' x4' x5' S' R', b1_law [sc, some (.val (.loc 0)), t, x3, x4, x5] S = .nx [sc, some (.val (.loc 0)), t, x3', x4', x5'] S' ∧ Pot S' R' := by
  obtain ⟨l, S1, d1, hp1, l0, l1⟩ := draw hp (m := 4) (by omega) (by omega)
  obtain ⟨n, S2, d2, hp2, n0, n1⟩ := draw hp1 (m := 6) (by omega) (by omega)
  obtain ⟨ow, rows, S3, pl, hp3, P, hn, h18, h3⟩ := law_plant (L := 1 + l) (n := 1 + n) (by omega) (by omega) (by omega) (by omega) hp2
  obtain ⟨h, S4, d3, hp4, h0, h1⟩ := draw hp3 (m := 8) (by omega) (by omega)
  obtain ⟨ht, hnx, S5, hd, hp5, HM, hl⟩ := law_machine P (side := 0) (mem := 1 + h) (most := 60) (Or.inl rfl) (by omega) (by omega) (by omega) hp4
  obtain ⟨w, S6, d4, hp6, w0, w1⟩ := draw hp5 (m := 12) (by omega) (by omega)
  obtain ⟨wt, wn, S7, we, hp7, WM, wl⟩ := law_machine P (side := 1) (mem := 1 + w) (most := 400) (Or.inr rfl) (by omega) (by omega) (by omega) hp6
  obtain ⟨S8, R8, cr, hp8⟩ := law_course_right ⟨P, HM, WM⟩ ⟨by omega, h3, h18, by omega, by omega⟩ hp7
  exact ⟨_, _, _, S8, R8, law_step d1 d2 pl d3 hd d4 we cr, hp8⟩
theorem law_true (ns : List Int) (h : ns.length ≤ 63) : ∃ S, F_law [.kst (ns.map .int)] [] = .ok (.bl true) S := by
  obtain ⟨S0, e0, hp⟩ := law_pot ns
  obtain ⟨a3, a4, a5, S1, R1, e1, hp1⟩ := law_turn hp (some (.val (.kst (ns.map .int)))) (some (.val (.int 0))) none none none
  obtain ⟨b3, b4, b5, S2, R2, e2, hp2⟩ := law_turn hp1 (some (.val (.kst (ns.map .int)))) (some (.val (.int 1))) a3 a4 a5
  obtain ⟨S3, e3⟩ := law_counters_right hp2
  have rg : rangeD [.int 2] = some (rngD 0 2) := range1 (n := 2) (by omega) (by omega)
  have r2 : rngD 0 2 = [.int 0, .int 1] := rfl
  rw [r2] at rg
  have f1 := forL_nx (t := t1_law) (ds := [.int 1]) (Γ := [some (.val (.kst (ns.map .int))), some (.val (.loc 0)), none, none, none, none]) (S := S0) (d := .int 0) (by simp [t1_law]) e1
  have f2 := forL_nx (t := t1_law) (ds := []) (Γ := [some (.val (.kst (ns.map .int))), some (.val (.loc 0)), some (.val (.int 0)), a3, a4, a5]) (S := S1) (d := .int 1) (by simp [t1_law]) e2
  refine ⟨S3, ?_⟩
  generalize ns.map D.int = NS at *
  simp [F_law, fnOf, g_law, e0, rg, f1, f2, e3]
end K76
set_option Elab.async false
set_option linter.all false
set_option maxRecDepth 100000
set_option maxHeartbeats 0
namespace K76
open PySem PySem.Spec PyProof.Rows L2 DL
abbrev R : PySem.W.OpenRow := PySem.W.OpenLaw.row PySem.Challenge.rw_settledhands_k76_whole_courses
def loose : List PySem.Str := (["__name__", "HandError", "LimitError", "InvalidPlant", "InvalidHand", "InvalidWeather", "InvalidMany", "InvalidLetter", "TooMany", "MOST_LETTERS", "is_integer", "is_count", "want_at_most", "PLANT_WORD", "MOST_PLANT_PLACES", "MOST_PLACE_MOVES", "MOST_PLANT_MOVES", "is_move_of", "are_place_moves", "are_owners_of", "is_plant_of", "is_any_plant", "want_plant", "moves_of", "numbers_of", "MOST_MEMORIES", "MOST_WEATHER_MEMORIES", "is_taken", "are_taken", "are_next"] : List PySem.Str) ++ (["is_machine_of", "is_hand_of", "is_weather_of", "want_hand", "want_weather", "numbers_along", "MOST_TRIPLES", "MOST_MANY", "want_machines", "want_many", "move_at", "course_of", "at_course", "sum_along", "course", "place_behind", "letter_at", "counted", "_law_pot", "_law_draw", "_law_pick", "_law_moves", "_law_plant", "_law_machine", "_law_play", "_law_late", "_law_sum", "_law_ring", "_law_great", "_law_course_right"] : List PySem.Str) ++ (["_law_counter", "_law_gcd", "_law_counters_right"] : List PySem.Str)
abbrev hk : PySem.W.Hook := hookG 4 fa fn ex
def ob (s : PySem.W.SharedT) : He.AlD × Bool := obG 4 fa fn ex (HandSHeadRun.getT s)
theorem ob_eq (s : PySem.W.SharedT) : ob s = hk.obs s.abs := obG_eq (HandSHeadRun.getT_eq s)
theorem run (w : World) : HandSHeadRun.RunEq R (PySem.W.view R.prog [68]) hk ob 6000 loose w := by
  intro os
  kernel_rfl

end K76
open PySem PySem.W PySem.Calls PyProof.Rows
theorem PySem.Challenge.cw_settledhands_k76_whole_courses_holds : PySem.Challenge.rw_settledhands_k76_whole_courses.Holds := by
  w_on; o_law
  refine HandSHeadRun.head_any (r := OpenLaw.row PySem.Challenge.rw_settledhands_k76_whole_courses) (q := view (OpenLaw.row PySem.Challenge.rw_settledhands_k76_whole_courses).prog [68]) (H := K76.hk) (ob := K76.ob) (M := 6000) (loose := K76.loose) (d := HandSHeadRun.topDef (OpenLaw.row PySem.Challenge.rw_settledhands_k76_whole_courses).prog 68) (kwd := []) K76.ob_eq
    (by kernel_rfl) (fun s => by kernel_rfl) K76.run (by kernel_rfl) (by kernel_rfl) (by kernel_rfl) (by rfl) (by first | assumption | decide +kernel) (by decide +kernel) ⟨rfl, rfl, rfl, rfl, rfl, by decide +kernel⟩ ?hw ?hc
  case hw => w_witness2
  case hc => exact DL.walk_G (l := PySem.Challenge.rw_settledhands_k76_whole_courses) (n := 63) (k := 11) (F := K76.F_law) (dd := K76.d_law) rfl (by decide) (by kernel_rfl) ⟨rfl, by decide, by decide⟩ (by kernel_rfl) K76.bp_law (fun w K mg base c => K76.ok_law c) K76.law_true
