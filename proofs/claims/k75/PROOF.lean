import PyProof.Rows.All
import Wide.All
import OpenK.AllK
import Wide.FinOn
import HandS.ForMost
import HandS.ForExc
import HandS.HeadHook1
import HandS.Defaults
import HandS.HeadHook2
import HandS.HeadHook4
import HandS.Walk
import HandS.Zip
import KE.GoesEnum
import HandS.TupMul
import HandS.Wide
import HandS.TupAny
import HandS.Deep
import HandS.Text
import HandS.IsInst
import HandS.Conv
import HandS.Dict
import HandS.DictTup
import HandS.TupLen
import HandS.SetFor
import HandS.TupSets
import HandS.RaiseMore
import PyProof.ReprRoads
import HandS.Style
import KE.KExcInit
import HandS.ExcInit
import HandS.ExcField
import KE.KExcIs
import HandS.ExcIs
import HandS.TryMany
import HandS.Ends
import HandS.Head0
import HandS.Head1
import HandS.Head2
import HandS.HeadEnd
import PySem.Challenge.RW_settledhands_k75_whole_programs_of_hands
import HandS.Codes
import PyProof.ReprLen
import PyProof.ReprBulk
set_option Elab.async false
set_option linter.all false
set_option maxRecDepth 100000
/-! DLa: data D, what stands for it (Rep), the state of a body (slots Gm, own objects, the store), the meanings of expressions and statements as functions, and how HandS's readings follow from them. -/
namespace DL
open PySem L2

/-! ### data -/
inductive D where
  | non
  | bl (b : Bool)
  | int (i : Int)
  | str (s : PySem.Str)
  | tup (ds : List D)
  | lst (ds : List D)
  /-- a list that is only read: the script, a module's own -/
  | kst (ds : List D)
  | loc (n : Nat)
  | raw (v : V)
  /-- an empty dict that is only read -/
  | emp

mutual
/-- v stands for d: tuples and lists in the frozen heap Hf, store objects by μ -/
def Rep (K : PySem.W.Frag) (μ : List Addr) (Hf : Hp) : D → V → Prop
  | .non, v => v = V.non
  | .bl b, v => v = V.bl b
  | .int i, v => v = V.int i
  | .str s, v => v = V.str s
  | .tup ds, v => ∃ a xs, v = V.ref a ∧ Hf a = some (.tup xs) ∧ xs.length ≤ sizeLine ∧ RepL K μ Hf ds xs
  | .lst ds, v => ∃ a xs, v = V.ref a ∧ Hf a = some (.lst xs) ∧ xs.length ≤ sizeLine ∧ RepL K μ Hf ds xs
  | .kst ds, v => ∃ a xs, v = V.ref a ∧ SqL K Hf a xs ∧ xs.length ≤ sizeLine ∧ RepL K μ Hf ds xs
  | .loc n, v => ∃ a, v = V.ref a ∧ μ[n]? = some a
  | .raw w, v => v = w
  | .emp, v => ∃ a, v = V.ref a ∧ Hf a = some (.dK [])
def RepL (K : PySem.W.Frag) (μ : List Addr) (Hf : Hp) : List D → List V → Prop
  | [], xs => xs = []
  | d :: ds, xs => ∃ x r, xs = x :: r ∧ Rep K μ Hf d x ∧ RepL K μ Hf ds r
end

def Sub (A B : Hp) : Prop := ∀ a o, A a = some o → B a = some o
theorem Sub.refl (A : Hp) : Sub A A := fun _ _ h => h
theorem Sub.trans {A B C : Hp} (h : Sub A B) (k : Sub B C) : Sub A C := fun a o e => k a o (h a o e)
theorem Sub.rd {A B : Hp} (h : Sub A B) {a : Addr} {u : HO} (r : Rd A a u) : Rd B a u := by
  rcases r with r | ⟨o, r⟩
  · exact .inl (h _ _ r)
  · exact .inr ⟨o, h _ _ r⟩
theorem Sub.sl {K : PySem.W.Frag} {A B : Hp} (h : Sub A B) {a : Addr} {xs : List V} (r : SqL K A a xs) : SqL K B a xs := by
  rcases r with r | r
  · exact .inl (h.rd r)
  · exact .inr r
theorem Sub.tp {K : PySem.W.Frag} {A B : Hp} (h : Sub A B) {a : Addr} {xs : List V} (r : A a = some (.tup xs)) : SqT K B a xs := SqT.of (h _ _ r)
theorem Sub.st {K : PySem.W.Frag} {A B : Hp} (h : Sub A B) {a : Addr} {xs : List V} (r : SqT K A a xs) : SqT K B a xs := by
  rcases r with r | r
  · exact .inl (h.rd r)
  · exact .inr r
/-- the prefix order of store addresses -/
def Pre (μ ν : List Addr) : Prop := ∀ (n : Nat) (a : Addr), μ[n]? = some a → ν[n]? = some a
theorem Pre.refl (μ : List Addr) : Pre μ μ := fun _ _ h => h
theorem Pre.trans {a b c : List Addr} (h : Pre a b) (k : Pre b c) : Pre a c := fun n x e => k n x (h n x e)
theorem Pre.mem {a b : List Addr} (h : Pre a b) {x : Addr} (m : x ∈ a) : x ∈ b := by
  obtain ⟨n, e⟩ := List.mem_iff_getElem?.mp m
  exact List.mem_of_getElem? (h n x e)

section
variable {K : PySem.W.Frag} {μ ν : List Addr} {A B : Hp}
mutual
theorem Rep.mono (hs : Sub A B) (hp : Pre μ ν) : ∀ (d : D) (v : V), Rep K μ A d v → Rep K ν B d v
  | .non, v, h => by simpa only [Rep] using h
  | .bl _, v, h => by simpa only [Rep] using h
  | .int _, v, h => by simpa only [Rep] using h
  | .str _, v, h => by simpa only [Rep] using h
  | .raw _, v, h => by simpa only [Rep] using h
  | .emp, v, h => by
    simp only [Rep] at h ⊢
    obtain ⟨a, e, q⟩ := h
    exact ⟨a, e, hs _ _ q⟩
  | .loc n, v, h => by
    simp only [Rep] at h ⊢
    obtain ⟨a, e, q⟩ := h
    exact ⟨a, e, hp n a q⟩
  | .tup ds, v, h => by
    simp only [Rep] at h ⊢
    obtain ⟨a, xs, e, q, z, r⟩ := h
    exact ⟨a, xs, e, hs _ _ q, z, RepL.mono hs hp ds xs r⟩
  | .lst ds, v, h => by
    simp only [Rep] at h ⊢
    obtain ⟨a, xs, e, q, z, r⟩ := h
    exact ⟨a, xs, e, hs _ _ q, z, RepL.mono hs hp ds xs r⟩
  | .kst ds, v, h => by
    simp only [Rep] at h ⊢
    obtain ⟨a, xs, e, q, z, r⟩ := h
    exact ⟨a, xs, e, hs.sl q, z, RepL.mono hs hp ds xs r⟩
theorem RepL.mono (hs : Sub A B) (hp : Pre μ ν) : ∀ (ds : List D) (xs : List V), RepL K μ A ds xs → RepL K ν B ds xs
  | [], xs, h => by simpa only [RepL] using h
  | d :: ds, xs, h => by
    simp only [RepL] at h ⊢
    obtain ⟨x, r, e, q, k⟩ := h
    exact ⟨x, r, e, Rep.mono hs hp d x q, RepL.mono hs hp ds r k⟩
end
theorem RepL.length : ∀ {ds : List D} {xs : List V}, RepL K μ A ds xs → xs.length = ds.length
  | [], xs, h => by simp only [RepL] at h; rw [h]; rfl
  | d :: ds, xs, h => by
    simp only [RepL] at h
    obtain ⟨x, r, rfl, _, k⟩ := h
    simp [RepL.length k]
theorem RepL.nil : RepL K μ A [] [] := by simp only [RepL]
theorem RepL.cons {d : D} {ds : List D} {x : V} {xs : List V} (h : Rep K μ A d x) (k : RepL K μ A ds xs) : RepL K μ A (d :: ds) (x :: xs) := by
  simp only [RepL]
  exact ⟨x, xs, rfl, h, k⟩
theorem RepL.append : ∀ {ds es : List D} {xs ys : List V}, RepL K μ A ds xs → RepL K μ A es ys → RepL K μ A (ds ++ es) (xs ++ ys)
  | [], es, xs, ys, h, k => by simp only [RepL] at h; subst h; exact k
  | d :: ds, es, xs, ys, h, k => by
    simp only [RepL] at h
    obtain ⟨x, r, rfl, q, h⟩ := h
    exact RepL.cons q (RepL.append h k)
theorem RepL.get : ∀ {ds : List D} {xs : List V} {i : Nat} {d : D}, RepL K μ A ds xs → ds[i]? = some d → ∃ x, xs[i]? = some x ∧ Rep K μ A d x
  | [], _, _, _, _, e => by simp at e
  | c :: ds, xs, i, d, h, e => by
    simp only [RepL] at h
    obtain ⟨x, r, rfl, q, h⟩ := h
    cases i with
    | zero => simp at e; subst e; exact ⟨x, rfl, q⟩
    | succ i =>
      obtain ⟨y, h1, h2⟩ := RepL.get (i := i) h (by simpa using e)
      exact ⟨y, by simpa using h1, h2⟩
theorem RepL.getV : ∀ {ds : List D} {xs : List V} {i : Nat} {x : V}, RepL K μ A ds xs → xs[i]? = some x → ∃ d, ds[i]? = some d ∧ Rep K μ A d x
  | [], _, _, _, h, e => by simp only [RepL] at h; subst h; simp at e
  | c :: ds, xs, i, x, h, e => by
    simp only [RepL] at h
    obtain ⟨y, r, rfl, q, h⟩ := h
    cases i with
    | zero => simp at e; subst e; exact ⟨c, rfl, q⟩
    | succ i =>
      obtain ⟨d, h1, h2⟩ := RepL.getV (i := i) h (by simpa using e)
      exact ⟨d, by simpa using h1, h2⟩
theorem RepL.take : ∀ (n : Nat) {ds : List D} {xs : List V}, RepL K μ A ds xs → RepL K μ A (ds.take n) (xs.take n)
  | 0, _, _, _ => by simp [RepL.nil]
  | n + 1, [], xs, h => by simp only [RepL] at h; subst h; simp [RepL.nil]
  | n + 1, d :: ds, xs, h => by
    simp only [RepL] at h
    obtain ⟨x, r, rfl, q, h⟩ := h
    exact RepL.cons q (RepL.take n h)
theorem RepL.drop : ∀ (n : Nat) {ds : List D} {xs : List V}, RepL K μ A ds xs → RepL K μ A (ds.drop n) (xs.drop n)
  | 0, _, _, h => h
  | n + 1, [], xs, h => by simp only [RepL] at h; subst h; simp [RepL.nil]
  | n + 1, d :: ds, xs, h => by
    simp only [RepL] at h
    obtain ⟨x, r, rfl, q, h⟩ := h
    exact RepL.drop n h
theorem RepL.set : ∀ (n : Nat) {ds : List D} {xs : List V} {d : D} {x : V}, RepL K μ A ds xs → Rep K μ A d x → RepL K μ A (ds.set n d) (xs.set n x)
  | _, [], xs, _, _, h, _ => by simp only [RepL] at h; subst h; simp [RepL.nil]
  | 0, c :: ds, xs, d, x, h, k => by
    simp only [RepL] at h
    obtain ⟨y, r, rfl, q, h⟩ := h
    exact RepL.cons k h
  | n + 1, c :: ds, xs, d, x, h, k => by
    simp only [RepL] at h
    obtain ⟨y, r, rfl, q, h⟩ := h
    exact RepL.cons q (RepL.set n h k)
end

/-! ### objects that may change: a body's own, the store's -/
/-- keys of dicts -/
def keyOf : D → Option Key
  | .int i => some (.inl i)
  | .str s => some (.inr s)
  | _ => none
def keysOf : List D → Option (List Key)
  | [] => some []
  | d :: ds => match keyOf d, keysOf ds with
    | some k, some ks => some (k :: ks)
    | _, _ => none
inductive SO where
  | lst (ds : List D)
  /-- a dict by tuples of ints and texts; by ints and texts -/
  | dT (kvs : List (List Key × D))
  | dK (kvs : List (Key × D))
def KRep {κ : Type} (K : PySem.W.Frag) (μ : List Addr) (Hf : Hp) : List (κ × D) → List (κ × V) → Prop
  | [], xs => xs = []
  | (k, d) :: ds, xs => ∃ x r, xs = (k, x) :: r ∧ Rep K μ Hf d x ∧ KRep K μ Hf ds r
def ORep (K : PySem.W.Frag) (μ : List Addr) (Hf : Hp) : SO → HO → Prop
  | .lst ds, o => ∃ xs, o = .lst xs ∧ xs.length ≤ sizeLine ∧ RepL K μ Hf ds xs
  | .dT ks, o => ∃ xs, o = .dT xs ∧ KRep K μ Hf ks xs
  | .dK ks, o => ∃ xs, o = .dK xs ∧ KRep K μ Hf ks xs
section
variable {K : PySem.W.Frag} {μ ν : List Addr} {A B : Hp}
theorem KRep.mono {κ : Type} (hs : Sub A B) (hp : Pre μ ν) : ∀ {ks : List (κ × D)} {xs : List (κ × V)}, KRep K μ A ks xs → KRep K ν B ks xs
  | [], xs, h => h
  | (k, d) :: ks, xs, h => by
    obtain ⟨x, r, e, q, h⟩ := h
    exact ⟨x, r, e, Rep.mono hs hp d x q, KRep.mono hs hp h⟩
theorem ORep.mono (hs : Sub A B) (hp : Pre μ ν) : ∀ {o : SO} {u : HO}, ORep K μ A o u → ORep K ν B o u
  | .lst ds, u, h => by
    obtain ⟨xs, e, z, q⟩ := h
    exact ⟨xs, e, z, RepL.mono hs hp ds xs q⟩
  | .dT ks, u, h => by
    obtain ⟨xs, e, q⟩ := h
    exact ⟨xs, e, KRep.mono hs hp q⟩
  | .dK ks, u, h => by
    obtain ⟨xs, e, q⟩ := h
    exact ⟨xs, e, KRep.mono hs hp q⟩
end

abbrev Store := List SO
/-- a slot: a value, or the address of an object that nobody else knows -/
inductive Sl where
  | val (d : D)
  | own (o : SO)
abbrev Gm := List (Option Sl)

structure SlOk (K : PySem.W.Frag) (Γ : Gm) (σ : L2.St) (H Hf : Hp) (μ : List Addr) : Prop where
  len : Γ.length = σ.length
  val : ∀ (i : Nat) (d : D), Γ[i]? = some (some (.val d)) → ∃ v, σ[i]? = some (some v) ∧ Rep K μ Hf d v
  own : ∀ (i : Nat) (o : SO), Γ[i]? = some (some (.own o)) → ∃ p u, σ[i]? = some (some (V.ref p)) ∧ H p = some u ∧ ORep K μ Hf o u ∧ Hf p = none ∧ p ∉ μ
  apart : ∀ (i j : Nat) (o o' : SO) (p : Addr), Γ[i]? = some (some (.own o)) → Γ[j]? = some (some (.own o')) → σ[i]? = some (some (V.ref p)) → σ[j]? = some (some (V.ref p)) → i = j
structure StoOk (K : PySem.W.Frag) (S : Store) (H Hf : Hp) (μ : List Addr) : Prop where
  sub : Sub Hf H
  len : μ.length = S.length
  nd : μ.Nodup
  ob : ∀ (n : Nat) (o : SO) (a : Addr), S[n]? = some o → μ[n]? = some a → ∃ u, H a = some u ∧ ORep K μ Hf o u
  fz : ∀ a ∈ μ, Hf a = none
/-- from one state to a later one -/
structure Step (H Hf : Hp) (μ : List Addr) (H' Hf' : Hp) (μ' : List Addr) : Prop where
  fr : ∀ a o, H a = some o → a ∉ μ → H' a = some o
  fz : Sub Hf Hf'
  nf : ∀ a, Hf a = none → H a ≠ none → Hf' a = none
  mu : Pre μ μ'
  nm : ∀ a ∈ μ', a ∈ μ ∨ H a = none
  th : ∀ a, H a ≠ none → H' a ≠ none
section
variable {K : PySem.W.Frag} {Γ : Gm} {σ : L2.St} {S S' : Store} {H Hf H' Hf' H2 Hf2 : Hp} {μ μ' μ2 : List Addr}
theorem Step.refl (H Hf : Hp) (μ : List Addr) : Step H Hf μ H Hf μ := ⟨fun _ _ h _ => h, Sub.refl _, fun _ h _ => h, Pre.refl _, fun _ h => .inl h, fun _ h => h⟩
theorem Step.trans (a : Step H Hf μ H' Hf' μ') (b : Step H' Hf' μ' H2 Hf2 μ2) : Step H Hf μ H2 Hf2 μ2 where
  fr := fun x o h n => b.fr x o (a.fr x o h n) fun m => by
    rcases a.nm x m with k | k
    · exact n k
    · rw [k] at h; cases h
  fz := a.fz.trans b.fz
  nf := fun x h n => b.nf x (a.nf x h n) (a.th x n)
  mu := a.mu.trans b.mu
  nm := fun x m => by
    rcases b.nm x m with k | k
    · exact a.nm x k
    · by_cases z : H x = none
      · exact .inr z
      · exact absurd k (a.th x z)
  th := fun x h => b.th x (a.th x h)
theorem SlOk.step (h : SlOk K Γ σ H Hf μ) (s : Step H Hf μ H' Hf' μ') : SlOk K Γ σ H' Hf' μ' where
  len := h.len
  val := fun i d e => by
    obtain ⟨v, e1, r⟩ := h.val i d e
    exact ⟨v, e1, Rep.mono s.fz s.mu d v r⟩
  own := fun i o e => by
    obtain ⟨p, u, e1, e2, r, n, m⟩ := h.own i o e
    refine ⟨p, u, e1, s.fr p u e2 m, r.mono s.fz s.mu, s.nf p n (by rw [e2]; exact fun z => nomatch z), fun z => ?_⟩
    rcases s.nm p z with k | k
    · exact m k
    · rw [k] at e2; cases e2
  apart := h.apart
theorem Step.rep (s : Step H Hf μ H' Hf' μ') {d : D} {v : V} (r : Rep K μ Hf d v) : Rep K μ' Hf' d v := Rep.mono s.fz s.mu d v r
theorem Step.repL (s : Step H Hf μ H' Hf' μ') {d : List D} {v : List V} (r : RepL K μ Hf d v) : RepL K μ' Hf' d v := RepL.mono s.fz s.mu d v r
end

/-! ### meanings -/
inductive RE (α : Type) where
  | ok (a : α) (S : Store)
  | ex (C : PySem.Str) (fs : List (PySem.Str × D)) (S : Store)
  | no
def RE.bind {α β : Type} (x : RE α) (f : α → Store → RE β) : RE β := match x with
  | .ok a S => f a S
  | .ex C fs S => .ex C fs S
  | .no => .no
@[simp] theorem RE.bind_ok {α β : Type} (a : α) (S : Store) (f : α → Store → RE β) : (RE.ok a S).bind f = f a S := rfl
@[simp] theorem RE.bind_ex {α β : Type} (C : PySem.Str) (fs : List (PySem.Str × D)) (S : Store) (f : α → Store → RE β) : (RE.ex C fs S : RE α).bind f = .ex C fs S := rfl
@[simp] theorem RE.bind_no {α β : Type} (f : α → Store → RE β) : (RE.no : RE α).bind f = .no := rfl
abbrev Ev (α : Type) := Gm → Store → RE α

/-- fields of an exception -/
def FRep (K : PySem.W.Frag) (μ : List Addr) (Hf : Hp) (fs : List (PySem.Str × D)) (fv : List (PySem.Str × V)) : Prop := KRep K μ Hf fs fv
/-- the relation of a result: at entry H, at the end (H', Hf', μ') -/
abbrev RR (α β : Type) := Hp → Hp → Hp → List Addr → α → β → Prop
def RMono {α β : Type} (R : RR α β) : Prop := ∀ H H1 H' Hf' μ' a b, (∀ x, H x ≠ none → H1 x ≠ none) → R H1 H' Hf' μ' a b → R H H' Hf' μ' a b
/-- what is asked of what f has told, at the state (H, Hf, μ) ahead of it -/
def Out {α β : Type} (K : PySem.W.Frag) (R : RR α β) (W : WX) (σ : L2.St) (H Hf : Hp) (μ : List Addr) (r : RE α) (Q : β → Hp → Prop) : Prop := match r with
  | .ok d S' => ∀ v H' Hf' μ', Step H Hf μ H' Hf' μ' → StoOk K S' H' Hf' μ' → R H H' Hf' μ' d v → Q v H'
  | .ex C fs S' => ∀ dd fv H' Hf' μ', Step H Hf μ H' Hf' μ' → StoOk K S' H' Hf' μ' → Hf' dd = some (.xd fv) → FRep K μ' Hf' fs fv → W (.ref (He.ga K C)) (some dd) σ H'
  | .no => False
section
variable {α β γ δ : Type} {K : PySem.W.Frag} {R : RR α β} {R' : RR γ δ} {W : WX} {Γ : Gm} {σ : L2.St} {S S1 : Store} {H Hf H1 Hf1 : Hp} {μ μ1 : List Addr}
theorem Out.later (hm : RMono R) {r : RE α} {Q : β → Hp → Prop} (s : Step H Hf μ H1 Hf1 μ1) (o : Out K R W σ H Hf μ r Q) : Out K R W σ H1 Hf1 μ1 r Q := by
  cases r with
  | ok d S' => exact fun v H' Hf' μ' k so re => o v H' Hf' μ' (s.trans k) so (hm _ _ _ _ _ _ _ s.th re)
  | ex C fs S' => exact fun dd fv H' Hf' μ' k => o dd fv H' Hf' μ' (s.trans k)
  | no => exact o
theorem Out.bind {r : RE α} {k : α → Store → RE γ} {Q : δ → Hp → Prop} {Q1 : β → Hp → Prop} (sl : SlOk K Γ σ H Hf μ) (hm : RMono R') (o : Out K R' W σ H Hf μ (r.bind k) Q)
    (h : ∀ d S1 v H1 Hf1 μ1, r = .ok d S1 → Step H Hf μ H1 Hf1 μ1 → SlOk K Γ σ H1 Hf1 μ1 → StoOk K S1 H1 Hf1 μ1 → R H H1 Hf1 μ1 d v → Out K R' W σ H1 Hf1 μ1 (k d S1) Q → Q1 v H1) : Out K R W σ H Hf μ r Q1 := by
  cases r with
  | ok d S' => exact fun v H' Hf' μ' st so re => h d S' v H' Hf' μ' rfl st (sl.step st) so re (Out.later hm st o)
  | ex C fs S' => exact o
  | no => exact o
end
abbrev RepR (K : PySem.W.Frag) : RR D V := fun _ _ Hf μ d v => Rep K μ Hf d v
abbrev RepLR (K : PySem.W.Frag) : RR (List D) (List V) := fun _ _ Hf μ d v => RepL K μ Hf d v
abbrev EqR (α : Type) : RR α α := fun _ _ _ _ a b => a = b
/-- a new object that nobody else knows -/
def NewR (K : PySem.W.Frag) : RR SO V := fun H H' Hf' μ' o v => ∃ p u, v = V.ref p ∧ H p = none ∧ H' p = some u ∧ ORep K μ' Hf' o u ∧ Hf' p = none ∧ p ∉ μ'
theorem rm_rep {K : PySem.W.Frag} : RMono (RepR K) := fun _ _ _ _ _ _ _ _ h => h
theorem rm_repL {K : PySem.W.Frag} : RMono (RepLR K) := fun _ _ _ _ _ _ _ _ h => h
theorem rm_eq {α : Type} : RMono (EqR α) := fun _ _ _ _ _ _ _ _ h => h
theorem rm_new {K : PySem.W.Frag} : RMono (NewR K) := fun H H1 _ _ _ _ _ t ⟨p, u, e, n, q⟩ => ⟨p, u, e, Classical.byContradiction fun z => t p z n, q⟩
/-- a value that is used at once: told, or a slot's own -/
def BorR (K : PySem.W.Frag) (σ : L2.St) (Γ : Gm) : RR D V := fun _ _ Hf μ d v =>
  Rep K μ Hf d v ∨ ∃ (i : Nat) (ds : List D), Γ[i]? = some (some (.own (.lst ds))) ∧ σ[i]? = some (some v) ∧ d = .lst ds
theorem rm_bor {K : PySem.W.Frag} {σ : L2.St} {Γ : Gm} : RMono (BorR K σ Γ) := fun _ _ _ _ _ _ _ _ h => h

/-- the readings that follow from meanings -/
def tE (K : PySem.W.Frag) (W : WX) (f : Ev D) : TE := fun σ H Q => ∃ Γ S Hf μ, SlOk K Γ σ H Hf μ ∧ StoOk K S H Hf μ ∧ Out K (RepR K) W σ H Hf μ (f Γ S) Q
def tN (K : PySem.W.Frag) (W : WX) (f : Ev SO) : TE := fun σ H Q => ∃ Γ S Hf μ, SlOk K Γ σ H Hf μ ∧ StoOk K S H Hf μ ∧ Out K (NewR K) W σ H Hf μ (f Γ S) Q
def tBo (K : PySem.W.Frag) (W : WX) (f : Ev D) : TE := fun σ H Q => ∃ Γ S Hf μ, SlOk K Γ σ H Hf μ ∧ StoOk K S H Hf μ ∧ Out K (BorR K σ Γ) W σ H Hf μ (f Γ S) Q
def tA (K : PySem.W.Frag) (W : WX) (f : Ev (List D)) : TA := fun σ H Q => ∃ Γ S Hf μ, SlOk K Γ σ H Hf μ ∧ StoOk K S H Hf μ ∧ Out K (RepLR K) W σ H Hf μ (f Γ S) Q
def tT (K : PySem.W.Frag) (W : WX) (f : Ev Bool) : TT := fun σ H Q => ∃ Γ S Hf μ, SlOk K Γ σ H Hf μ ∧ StoOk K S H Hf μ ∧ Out K (EqR Bool) W σ H Hf μ (f Γ S) Q

theorem PE_imp {X : Cx} {e : Expr} {t t' : TE} (h : PE X e t) (k : ∀ σ H Q, t' σ H Q → t σ H Q) : PE X e t' := ⟨fun pins s σ H Q I hq => h.run pins s σ H Q I (k σ H Q hq)⟩
theorem PT_imp {X : Cx} {e : Expr} {t t' : TT} (h : PT X e t) (k : ∀ σ H Q, t' σ H Q → t σ H Q) : PT X e t' := ⟨fun pins s σ H Q I hq => h.run pins s σ H Q I (k σ H Q hq)⟩
theorem PA_imp {X : Cx} {e : List Expr} {t t' : TA} (h : PA X e t) (k : ∀ σ H Q, t' σ H Q → t σ H Q) : PA X e t' := ⟨fun pos pins s σ H Q I hq => h.run pos pins s σ H Q I (k σ H Q hq)⟩
theorem PS_imp {X : Cx} {e : Stmt} {t t' : TS} (h : PS X e t) (k : ∀ D σ H, t' D σ H → t D σ H) : PS X e t' := ⟨fun pins s σ H D I hq => h.run pins s σ H D I (k D σ H hq)⟩
theorem PSs_imp {X : Cx} {e : List Stmt} {t t' : TS} (h : PSs X e t) (k : ∀ D σ H, t' D σ H → t D σ H) : PSs X e t' := ⟨fun pins s σ H D I hq => h.run pins s σ H D I (k D σ H hq)⟩

/-- an expression's meaning -/
abbrev DE (X : Cx) (W : WX) (e : Expr) (f : Ev D) : Prop := PE X e (tE X.K W f)
abbrev DN (X : Cx) (W : WX) (e : Expr) (f : Ev SO) : Prop := PE X e (tN X.K W f)
abbrev DB (X : Cx) (W : WX) (e : Expr) (f : Ev D) : Prop := PE X e (tBo X.K W f)
abbrev DA (X : Cx) (W : WX) (es : List Expr) (f : Ev (List D)) : Prop := PA X es (tA X.K W f)
abbrev DT (X : Cx) (W : WX) (e : Expr) (f : Ev Bool) : Prop := PT X e (tT X.K W f)

/-! ### names, constants -/
def eC (d : D) : Ev D := fun _ S => .ok d S
def eV (i : Nat) : Ev D := fun Γ S => match Γ[i]? with
  | some (some (.val d)) => .ok d S
  | _ => .no
section
variable {X : Cx} {W : WX}
theorem tE_c {K : PySem.W.Frag} {d : D} {v : V} (h : ∀ μ Hf, Rep K μ Hf d v) {σ : L2.St} {H : Hp} {Q : VK} (q : tE K W (eC d) σ H Q) : tC v σ H Q := by
  obtain ⟨Γ, S, Hf, μ, sl, so, o⟩ := q
  exact o v H Hf μ (Step.refl _ _ _) so (h _ _)
theorem de_int {i : Int} {j pos} : DE X W (.Constant (.int i) j pos) (eC (.int i)) := PE_imp pe_int fun _ _ _ => tE_c fun _ _ => by simp only [Rep]
theorem de_bl {b : Bool} {j pos} : DE X W (.Constant (.bool b) j pos) (eC (.bl b)) := PE_imp pe_bl fun _ _ _ => tE_c fun _ _ => by simp only [Rep]
theorem de_non {j pos} : DE X W (.Constant .none j pos) (eC .non) := PE_imp pe_non fun _ _ _ => tE_c fun _ _ => by simp only [Rep]
theorem de_str {x} {j pos} : DE X W (.Constant (.str x) j pos) (eC (.str x)) := PE_imp pe_str fun _ _ _ => tE_c fun _ _ => by simp only [Rep]
theorem de_glob {x : PySem.Str} {d : D} {v : V} {u : Value} {pos : Pos} (hg : Gl X x) (hm : X.mg x = some u) (r : RelV v u) (hr : ∀ μ Hf, Rep X.K μ Hf d v) (hd : (x == ("__debug__" : PySem.Str)) = false := by decide) : DE X W (.Name x pos) (eC d) :=
  PE_imp (pe_glob hg hm r hd) fun _ _ _ => tE_c hr
theorem de_v (i : Nat) {x : PySem.Str} {pos : Pos} (hN : X.N[i]? = some x := by rfl) (hv : Vis X.env.scope x := by first | exact Or.inl rfl | exact Or.inr (Or.inl rfl) | exact Or.inr (Or.inr rfl)) (hd : (x == ("__debug__" : PySem.Str)) = false := by decide)
    (hcd : (x == ("__classdict__" : PySem.Str)) = false := by decide) : DE X W (.Name x pos) (eV i) := by
  refine PE_imp (pe_var (i := i) hN hv hd hcd) fun σ H Q ⟨Γ, S, Hf, μ, sl, so, o⟩ => ?_
  unfold eV at o
  cases e : Γ[i]? with
  | none => rw [e] at o; exact o.elim
  | some s =>
    cases s with
    | none => rw [e] at o; exact o.elim
    | some s =>
      cases s with
      | own u => rw [e] at o; exact o.elim
      | val d =>
        rw [e] at o
        obtain ⟨v, e1, r⟩ := sl.val i d e
        exact ⟨v, e1, o v H Hf μ (Step.refl _ _ _) so r⟩
end

/-! ### two expressions, an operation on data -/
def eBin (op : D → D → Option D) (a b : Ev D) : Ev D := fun Γ S => (a Γ S).bind fun x S1 => (b Γ S1).bind fun y S2 => match op x y with
  | some z => .ok z S2
  | none => .no
/-- an operation that makes no new object, by HandS's rule -/
def OpD (K : PySem.W.Frag) (r : R2) (op : D → D → Option D) : Prop := ∀ (S : Store) (H Hf : Hp) (μ : List Addr) (x y : V) (a b c : D) (Q : VK), StoOk K S H Hf μ → Rep K μ Hf a x → Rep K μ Hf b y → op a b = some c →
  (∀ v H' Hf' μ', Step H Hf μ H' Hf' μ' → StoOk K S H' Hf' μ' → Rep K μ' Hf' c v → Q v H') → r x y H Q
section
variable {X : Cx} {W : WX} {a b : Expr} {fa fb : Ev D} {pos : Pos} {r : R2} {op : D → D → Option D}
theorem tE_bin {K : PySem.W.Frag} (hop : OpD K r op) {σ : L2.St} {H : Hp} {Q : VK} (q : tE K W (eBin op fa fb) σ H Q) : tOp r (tE K W fa) (tE K W fb) σ H Q := by
  obtain ⟨Γ, S, Hf, μ, sl, so, o⟩ := q
  refine ⟨Γ, S, Hf, μ, sl, so, Out.bind sl rm_rep o fun x S1 v H1 Hf1 μ1 _ s1 sl1 so1 r1 o1 => ?_⟩
  refine ⟨Γ, S1, Hf1, μ1, sl1, so1, Out.bind sl1 rm_rep o1 fun y S2 u H2 Hf2 μ2 _ s2 sl2 so2 r2 o2 => ?_⟩
  cases e : op x y with
  | none => rw [e] at o2; exact o2.elim
  | some z =>
    rw [e] at o2
    exact hop S2 H2 Hf2 μ2 v u x y z Q so2 (s2.rep r1) r2 e o2
theorem de_op {o : Operator} (ho : OpR X (binaryOp o) r) (hop : OpD X.K r op) (ha : DE X W a fa) (hb : DE X W b fb) : DE X W (.BinOp a o b pos) (eBin op fa fb) :=
  PE_imp (pe_op ho ha hb) fun _ _ _ => tE_bin hop
theorem de_cmp {o : CmpOp} (ho : OpR X (compareOp o) r) (hop : OpD X.K r op) (ha : DE X W a fa) (hb : DE X W b fb) (hm : behindInMarks o b = false) : DE X W (.Compare a [o] [b] pos) (eBin op fa fb) :=
  PE_imp (pe_cmpR ho ha hb hm) fun _ _ _ => tE_bin hop
end
end DL
set_option Elab.async false
set_option linter.all false
set_option maxRecDepth 100000
/-! DLb: statements; tests; and, or, not; displays. -/
namespace DL
open PySem L2

/-! ### statements -/
/-- the entry of a body, and a floor: what is frozen stays so -/
structure Base where
  H : Hp
  Hf : Hp
  μ : List Addr
  fl : Hp := fun _ => none
  ml : List Addr := []
abbrev Base.at (B : Base) (fl : Hp) (ml : List Addr) : Base := ⟨B.H, B.Hf, B.μ, fl, ml⟩
inductive RS where
  | nx (Γ : Gm) (S : Store)
  | rt (d : D) (S : Store)
  | bk (Γ : Gm) (S : Store)
  | ct (Γ : Gm) (S : Store)
  | ex (C : PySem.Str) (fs : List (PySem.Str × D)) (Γ : Gm) (S : Store)
  | no
abbrev Es := Gm → Store → RS
/-- the state of a body whose entry was B -/
structure Rl (K : PySem.W.Frag) (B : Base) (Γ : Gm) (S : Store) (σ : L2.St) (H Hf : Hp) (μ : List Addr) : Prop where
  sl : SlOk K Γ σ H Hf μ
  so : StoOk K S H Hf μ
  st : Step B.H B.Hf B.μ H Hf μ
  own : ∀ (i : Nat) (o : SO) (p : Addr), Γ[i]? = some (some (.own o)) → σ[i]? = some (some (V.ref p)) → B.H p = none
  fz : Sub B.fl Hf
  pm : Pre B.ml μ
def SOut (K : PySem.W.Frag) (B : Base) (W : WX) (E : Ends) : RS → Prop
  | .nx Γ' S' => ∀ σ' H' Hf' μ', Rl K B Γ' S' σ' H' Hf' μ' → E.nx σ' H'
  | .rt d S' => ∀ v H' Hf' μ', Step B.H B.Hf B.μ H' Hf' μ' → StoOk K S' H' Hf' μ' → Rep K μ' Hf' d v → E.rt v H'
  | .bk Γ' S' => ∀ σ' H' Hf' μ', Rl K B Γ' S' σ' H' Hf' μ' → E.bk σ' H'
  | .ct Γ' S' => ∀ σ' H' Hf' μ', Rl K B Γ' S' σ' H' Hf' μ' → E.ct σ' H'
  | .ex C fs Γ' S' => ∀ dd fv σ' H' Hf' μ', Rl K B Γ' S' σ' H' Hf' μ' → Hf' dd = some (.xd fv) → FRep K μ' Hf' fs fv → W (.ref (He.ga K C)) (some dd) σ' H'
  | .no => False
def tS (K : PySem.W.Frag) (B : Base) (W : WX) (f : Es) : TS := fun E σ H => ∃ Γ S Hf μ, Rl K B Γ S σ H Hf μ ∧ SOut K B W E (f Γ S)
abbrev DS (X : Cx) (B : Base) (W : WX) (st : Stmt) (f : Es) : Prop := ∀ fl ml, PS X st (tS X.K (B.at fl ml) W f)
abbrev DSs (X : Cx) (B : Base) (W : WX) (st : List Stmt) (f : Es) : Prop := ∀ fl ml, PSs X st (tS X.K (B.at fl ml) W f)

section
variable {K : PySem.W.Frag} {B : Base} {Γ : Gm} {S S' : Store} {σ : L2.St} {H Hf H' Hf' : Hp} {μ μ' : List Addr} {W : WX}
theorem Rl.step (r : Rl K B Γ S σ H Hf μ) (s : Step H Hf μ H' Hf' μ') (so : StoOk K S' H' Hf' μ') : Rl K B Γ S' σ H' Hf' μ' :=
  ⟨r.sl.step s, so, r.st.trans s, r.own, r.fz.trans s.fz, r.pm.trans s.mu⟩
/-- a slot gets a value -/
theorem SlOk.setV (h : SlOk K Γ σ H Hf μ) (i : Nat) {d : D} {v : V} (r : Rep K μ Hf d v) : SlOk K (Γ.set i (some (.val d))) (σ.set i (some v)) H Hf μ where
  len := by simp [h.len]
  val := fun j c e => by
    by_cases hj : i = j
    · subst hj
      by_cases hl : i < Γ.length
      · rw [List.getElem?_set_self hl] at e
        cases e
        exact ⟨v, List.getElem?_set_self (by rw [← h.len]; exact hl), r⟩
      · rw [List.getElem?_eq_none (by rw [List.length_set]; omega)] at e
        cases e
    · rw [List.getElem?_set_ne hj] at e
      obtain ⟨u, e1, e2⟩ := h.val j c e
      exact ⟨u, by rw [List.getElem?_set_ne hj]; exact e1, e2⟩
  own := fun j o e => by
    by_cases hj : i = j
    · subst hj
      by_cases hl : i < Γ.length
      · rw [List.getElem?_set_self hl] at e
        cases e
      · rw [List.getElem?_eq_none (by rw [List.length_set]; omega)] at e
        cases e
    · rw [List.getElem?_set_ne hj] at e
      rw [List.getElem?_set_ne hj]
      exact h.own j o e
  apart := fun j k o o' p e1 e2 s1 s2 => by
    have go : ∀ {j : Nat} {o : SO}, (Γ.set i (some (.val d)))[j]? = some (some (.own o)) → i ≠ j := fun {j o} e z => by
      subst z
      by_cases hl : i < Γ.length
      · rw [List.getElem?_set_self hl] at e
        cases e
      · rw [List.getElem?_eq_none (by rw [List.length_set]; omega)] at e
        cases e
    have n1 := go e1
    have n2 := go e2
    rw [List.getElem?_set_ne n1] at e1 s1
    rw [List.getElem?_set_ne n2] at e2 s2
    exact h.apart j k o o' p e1 e2 s1 s2
/-- a slot gets a new object of its own -/
theorem SlOk.setN (h : SlOk K Γ σ H Hf μ) (i : Nat) {o : SO} {p : Addr} {u : HO} (hp : H p = some u) (ho : ORep K μ Hf o u) (hf : Hf p = none) (hm : p ∉ μ)
    (hn : ∀ (j : Nat) (o' : SO), i ≠ j → Γ[j]? = some (some (.own o')) → σ[j]? ≠ some (some (V.ref p))) : SlOk K (Γ.set i (some (.own o))) (σ.set i (some (V.ref p))) H Hf μ where
  len := by simp [h.len]
  val := fun j c e => by
    by_cases hj : i = j
    · subst hj
      by_cases hl : i < Γ.length
      · rw [List.getElem?_set_self hl] at e
        cases e
      · rw [List.getElem?_eq_none (by rw [List.length_set]; omega)] at e
        cases e
    · rw [List.getElem?_set_ne hj] at e
      obtain ⟨u, e1, e2⟩ := h.val j c e
      exact ⟨u, by rw [List.getElem?_set_ne hj]; exact e1, e2⟩
  own := fun j o' e => by
    by_cases hj : i = j
    · subst hj
      by_cases hl : i < Γ.length
      · rw [List.getElem?_set_self hl] at e
        cases e
        exact ⟨p, u, List.getElem?_set_self (by rw [← h.len]; exact hl), hp, ho, hf, hm⟩
      · rw [List.getElem?_eq_none (by rw [List.length_set]; omega)] at e
        cases e
    · rw [List.getElem?_set_ne hj] at e
      rw [List.getElem?_set_ne hj]
      exact h.own j o' e
  apart := fun j k o1 o2 q e1 e2 s1 s2 => by
    by_cases hj : i = j
    · by_cases hk : i = k
      · rw [← hj, ← hk]
      · subst hj
        by_cases hl : i < σ.length
        · rw [List.getElem?_set_self hl] at s1
          cases s1
          rw [List.getElem?_set_ne hk] at e2 s2
          exact absurd s2 (hn k o2 hk e2)
        · rw [List.getElem?_eq_none (by rw [List.length_set]; omega)] at s1
          cases s1
    · rw [List.getElem?_set_ne hj] at e1 s1
      by_cases hk : i = k
      · subst hk
        by_cases hl : i < σ.length
        · rw [List.getElem?_set_self hl] at s2
          cases s2
          exact absurd s1 (hn j o1 hj e1)
        · rw [List.getElem?_eq_none (by rw [List.length_set]; omega)] at s2
          cases s2
      · rw [List.getElem?_set_ne hk] at e2 s2
        exact h.apart j k o1 o2 q e1 e2 s1 s2
theorem Rl.setV (r : Rl K B Γ S σ H Hf μ) (i : Nat) {d : D} {v : V} (h : Rep K μ Hf d v) : Rl K B (Γ.set i (some (.val d))) S (σ.set i (some v)) H Hf μ :=
  ⟨r.sl.setV i h, r.so, r.st, fun j o p e1 e2 => by
    by_cases hj : i = j
    · subst hj
      by_cases hl : i < Γ.length
      · rw [List.getElem?_set_self hl] at e1
        cases e1
      · rw [List.getElem?_eq_none (by rw [List.length_set]; omega)] at e1
        cases e1
    · rw [List.getElem?_set_ne hj] at e1 e2
      exact r.own j o p e1 e2, r.fz, r.pm⟩
theorem Rl.setN (r : Rl K B Γ S σ H Hf μ) (i : Nat) {o : SO} {p : Addr} {u : HO} (hp : H p = some u) (ho : ORep K μ Hf o u) (hf : Hf p = none) (hm : p ∉ μ) (hb : B.H p = none)
    (hn : ∀ (j : Nat) (o' : SO), i ≠ j → Γ[j]? = some (some (.own o')) → σ[j]? ≠ some (some (V.ref p))) : Rl K B (Γ.set i (some (.own o))) S (σ.set i (some (V.ref p))) H Hf μ :=
  ⟨r.sl.setN i hp ho hf hm hn, r.so, r.st, fun j o' q e1 e2 => by
    by_cases hj : i = j
    · subst hj
      by_cases hl : i < σ.length
      · rw [List.getElem?_set_self hl] at e2
        cases e2
        exact hb
      · rw [List.getElem?_eq_none (by rw [List.length_set]; omega)] at e2
        cases e2
    · rw [List.getElem?_set_ne hj] at e1 e2
      exact r.own j o' q e1 e2, r.fz, r.pm⟩
/-- a slot is forgotten -/
theorem SlOk.setO (h : SlOk K Γ σ H Hf μ) (i : Nat) (x : Option V) : SlOk K (Γ.set i none) (σ.set i x) H Hf μ where
  len := by simp [h.len]
  val := fun j c e => by
    by_cases hj : i = j
    · subst hj
      by_cases hl : i < Γ.length
      · rw [List.getElem?_set_self hl] at e
        cases e
      · rw [List.getElem?_eq_none (by rw [List.length_set]; omega)] at e
        cases e
    · rw [List.getElem?_set_ne hj] at e
      obtain ⟨u, e1, e2⟩ := h.val j c e
      exact ⟨u, by rw [List.getElem?_set_ne hj]; exact e1, e2⟩
  own := fun j o e => by
    by_cases hj : i = j
    · subst hj
      by_cases hl : i < Γ.length
      · rw [List.getElem?_set_self hl] at e
        cases e
      · rw [List.getElem?_eq_none (by rw [List.length_set]; omega)] at e
        cases e
    · rw [List.getElem?_set_ne hj] at e
      rw [List.getElem?_set_ne hj]
      exact h.own j o e
  apart := fun j k o o' p e1 e2 s1 s2 => by
    have go : ∀ {j : Nat} {o : SO}, (Γ.set i none)[j]? = some (some (.own o)) → i ≠ j := fun {j o} e z => by
      subst z
      by_cases hl : i < Γ.length
      · rw [List.getElem?_set_self hl] at e
        cases e
      · rw [List.getElem?_eq_none (by rw [List.length_set]; omega)] at e
        cases e
    have n1 := go e1
    have n2 := go e2
    rw [List.getElem?_set_ne n1] at e1 s1
    rw [List.getElem?_set_ne n2] at e2 s2
    exact h.apart j k o o' p e1 e2 s1 s2

/-- an expression's end as a statement's -/
def ofE (Γ : Gm) (r : RE RS) : RS := match r with
  | .ok s _ => s
  | .ex C fs S => .ex C fs Γ S
  | .no => .no
def bindS {α : Type} (Γ : Gm) (r : RE α) (k : α → Store → RS) : RS := match r with
  | .ok a S => k a S
  | .ex C fs S => .ex C fs Γ S
  | .no => .no
@[simp] theorem bindS_ok {α : Type} (Γ : Gm) (a : α) (S : Store) (k : α → Store → RS) : bindS Γ (.ok a S) k = k a S := rfl
@[simp] theorem bindS_ex {α : Type} (Γ : Gm) (C : PySem.Str) (fs : List (PySem.Str × D)) (S : Store) (k : α → Store → RS) : bindS Γ (.ex C fs S : RE α) k = .ex C fs Γ S := rfl
@[simp] theorem bindS_no {α : Type} (Γ : Gm) (k : α → Store → RS) : bindS Γ (.no : RE α) k = .no := rfl
theorem SOut.bind {α β : Type} {R : RR α β} {E : Ends} {r : RE α} {k : α → Store → RS} {Q : β → Hp → Prop} (rl : Rl K B Γ S σ H Hf μ) (o : SOut K B W E (bindS Γ r k))
    (h : ∀ d S1 v H1 Hf1 μ1, r = .ok d S1 → Step H Hf μ H1 Hf1 μ1 → Rl K B Γ S1 σ H1 Hf1 μ1 → R H H1 Hf1 μ1 d v → SOut K B W E (k d S1) → Q v H1) : Out K R W σ H Hf μ r Q := by
  cases r with
  | ok d S' => exact fun v H' Hf' μ' st so re => h d S' v H' Hf' μ' rfl st (rl.step st so) re o
  | ex C fs S' => exact fun dd fv H' Hf' μ' st so hd fr => o dd fv σ H' Hf' μ' (rl.step st so) hd fr
  | no => exact o
end

/-! ### plain statements -/
def sNx : Es := fun Γ S => .nx Γ S
def sBk : Es := fun Γ S => .bk Γ S
def sCt : Es := fun Γ S => .ct Γ S
def sSeq (f g : Es) : Es := fun Γ S => match f Γ S with
  | .nx Γ' S' => g Γ' S'
  | r => r
def sRt (f : Ev D) : Es := fun Γ S => bindS Γ (f Γ S) fun d S' => .rt d S'
def sRtN : Es := fun _ S => .rt .non S
def sDr (f : Ev D) : Es := fun Γ S => bindS Γ (f Γ S) fun _ S' => .nx Γ S'
def sSet (i : Nat) (f : Ev D) : Es := fun Γ S => bindS Γ (f Γ S) fun d S' => .nx (Γ.set i (some (.val d))) S'
def sNew (i : Nat) (f : Ev SO) : Es := fun Γ S => bindS Γ (f Γ S) fun o S' => .nx (Γ.set i (some (.own o))) S'
def sIf (c : Ev Bool) (f g : Es) : Es := fun Γ S => bindS Γ (c Γ S) fun b S' => if b then f Γ S' else g Γ S'
section
variable {X : Cx} {B : Base} {W : WX} {st : Stmt} {sts : List Stmt} {f g : Es} {fe : Ev D} {fn : Ev SO} {e : Expr} {pos : Pos}
theorem ds_pass : DS X B W (.Pass pos) sNx := fun fl ml => PS_imp ps_pass fun E σ H ⟨Γ, S, Hf, μ, r, o⟩ => o σ H Hf μ r
theorem ds_break : DS X B W (.Break pos) sBk := fun fl ml => PS_imp ps_break fun E σ H ⟨Γ, S, Hf, μ, r, o⟩ => o σ H Hf μ r
theorem ds_cont : DS X B W (.Continue pos) sCt := fun fl ml => PS_imp ps_continue fun E σ H ⟨Γ, S, Hf, μ, r, o⟩ => o σ H Hf μ r
theorem dss_nil : DSs X B W [] sNx := fun fl ml => PSs_imp pss_nil fun E σ H ⟨Γ, S, Hf, μ, r, o⟩ => o σ H Hf μ r
theorem dss_one (h : DS X B W st f) : DSs X B W [st] f := fun fl ml => pss_one (h fl ml)
theorem dss_cons (h : DS X B W st f) (k : DSs X B W sts g) : DSs X B W (st :: sts) (sSeq f g) := by
  intro fl ml
  refine PSs_imp (pss_cons (h fl ml) (k fl ml)) fun E σ H ⟨Γ, S, Hf, μ, r, o⟩ => ⟨Γ, S, Hf, μ, r, ?_⟩
  unfold sSeq at o
  cases e : f Γ S with
  | nx Γ' S' =>
    rw [e] at o
    exact fun σ' H' Hf' μ' r' => ⟨Γ', S', Hf', μ', r', o⟩
  | rt d S' => rw [e] at o; exact o
  | bk Γ' S' => rw [e] at o; exact o
  | ct Γ' S' => rw [e] at o; exact o
  | ex C fs Γ' S' => rw [e] at o; exact o
  | no => rw [e] at o; exact o
/-- code that is never come to -/
theorem dss_never : DSs X B W sts (fun _ _ => .no) := fun fl ml => PSs_imp pss_never fun E σ H ⟨Γ, S, Hf, μ, r, o⟩ => o.elim
theorem ds_never : DS X B W st (fun _ _ => .no) := fun fl ml => PS_imp ps_never fun E σ H ⟨Γ, S, Hf, μ, r, o⟩ => o.elim
theorem ds_ret (h : DE X W e fe) : DS X B W (.Return (some e) pos) (sRt fe) :=
  fun fl ml => PS_imp (ps_ret h) fun E σ H ⟨Γ, S, Hf, μ, r, o⟩ => ⟨Γ, S, Hf, μ, r.sl, r.so, SOut.bind r o fun d S1 v H1 Hf1 μ1 _ s1 r1 re o1 => o1 v H1 Hf1 μ1 r1.st r1.so re⟩
theorem ds_retN : DS X B W (.Return none pos) sRtN :=
  fun fl ml => PS_imp ps_retN fun E σ H ⟨Γ, S, Hf, μ, r, o⟩ => o .non H Hf μ r.st r.so (by simp only [Rep])
theorem ds_expr (h : DE X W e fe) (hs : swapsWith e none pos.line X.env = pure false := by rfl) : DS X B W (.Expr e pos) (sDr fe) :=
  fun fl ml => PS_imp (ps_expr h hs) fun E σ H ⟨Γ, S, Hf, μ, r, o⟩ => ⟨Γ, S, Hf, μ, r.sl, r.so, SOut.bind r o fun d S1 v H1 Hf1 μ1 _ s1 r1 re o1 => o1 σ H1 Hf1 μ1 r1⟩
theorem ds_doc {x j pos'} : DS X B W (.Expr (.Constant (.str x) j pos') pos) sNx := fun fl ml => PS_imp ps_doc fun E σ H ⟨Γ, S, Hf, μ, r, o⟩ => o σ H Hf μ r
theorem tS_set {K : PySem.W.Frag} {i : Nat} {E : Ends} {σ : L2.St} {H : Hp} (h : tS K B W (sSet i fe) E σ H) : tAsg (tE K W fe) (gName i) E σ H := by
  obtain ⟨Γ, S, Hf, μ, r, o⟩ := h
  exact ⟨Γ, S, Hf, μ, r.sl, r.so, SOut.bind r o fun d S1 v H1 Hf1 μ1 _ s1 r1 re o1 => o1 _ H1 Hf1 μ1 (r1.setV i re)⟩
theorem tS_new {K : PySem.W.Frag} {i : Nat} {E : Ends} {σ : L2.St} {H : Hp} (h : tS K B W (sNew i fn) E σ H) : tAsg (tN K W fn) (gName i) E σ H := by
  obtain ⟨Γ, S, Hf, μ, r, o⟩ := h
  refine ⟨Γ, S, Hf, μ, r.sl, r.so, SOut.bind r o fun d S1 v H1 Hf1 μ1 _ s1 r1 re o1 => ?_⟩
  obtain ⟨p, u, rfl, hn, hp, ho, hf, hm⟩ := re
  refine o1 _ H1 Hf1 μ1 (r1.setN i hp ho hf hm ?_ fun j o' _ e1 e2 => ?_)
  · exact Classical.byContradiction fun z => r.st.th p z hn
  · obtain ⟨q, u', e3, e4, _⟩ := r.sl.own j o' e1
    rw [e3] at e2
    cases e2
    rw [hn] at e4
    cases e4
/-- name = value -/
theorem ds_set (i : Nat) {x : PySem.Str} {pos' : Pos} (h : DE X W e fe) (hN : X.N.Nodup) (hi : X.N[i]? = some x := by rfl) (hx : Loc X.env.scope x := by first | exact Or.inl rfl | exact Or.inr rfl)
    (hs : swapsWith e (some (.Name x pos')) pos.line X.env = pure false := by rfl) (hf : X.fn x = true ∨ X.env.scope.names.lookup x = some .local := by first | exact .inl rfl | exact .inr rfl | assumption) :
    DS X B W (.Assign [.Name x pos'] e pos) (sSet i fe) := fun fl ml => PS_imp (ps_set hN hi hx h hs hf) fun _ _ _ => tS_set
/-- name = a new object, kept to itself -/
theorem ds_new (i : Nat) {x : PySem.Str} {pos' : Pos} (h : DN X W e fn) (hN : X.N.Nodup) (hi : X.N[i]? = some x := by rfl) (hx : Loc X.env.scope x := by first | exact Or.inl rfl | exact Or.inr rfl)
    (hs : swapsWith e (some (.Name x pos')) pos.line X.env = pure false := by rfl) (hf : X.fn x = true ∨ X.env.scope.names.lookup x = some .local := by first | exact .inl rfl | exact .inr rfl | assumption) :
    DS X B W (.Assign [.Name x pos'] e pos) (sNew i fn) := fun fl ml => PS_imp (ps_set hN hi hx h hs hf) fun _ _ _ => tS_new
theorem ds_if {c : Expr} {a b : List Stmt} {fc : Ev Bool} (hc : DT X W c fc) (ha : DSs X B W a f) (hb : DSs X B W b g) : DS X B W (.If c a b pos) (sIf fc f g) := by
  intro fl ml
  refine PS_imp (ps_if hc (ha fl ml) (hb fl ml)) fun E σ H ⟨Γ, S, Hf, μ, r, o⟩ => ⟨Γ, S, Hf, μ, r.sl, r.so, SOut.bind r o fun d S1 v H1 Hf1 μ1 _ s1 r1 re o1 => ?_⟩
  obtain rfl : d = v := re
  cases d with
  | true => rw [if_pos rfl] at o1; rw [if_pos rfl]; exact ⟨Γ, S1, Hf1, μ1, r1, o1⟩
  | false => rw [if_neg Bool.false_ne_true] at o1; rw [if_neg Bool.false_ne_true]; exact ⟨Γ, S1, Hf1, μ1, r1, o1⟩
end

/-! ### tests -/
/-- a truth value told -/
def toB (f : Ev D) : Ev Bool := fun Γ S => (f Γ S).bind fun d S' => match d with
  | .bl b => .ok b S'
  | _ => .no
def ofB (f : Ev Bool) : Ev D := fun Γ S => (f Γ S).bind fun b S' => .ok (.bl b) S'
section
variable {X : Cx} {W : WX} {e a b c : Expr} {f fa fb : Ev D} {ta tb tc : Ev Bool} {pos : Pos} {rest : List Expr}
theorem tE_toB {K : PySem.W.Frag} {σ : L2.St} {H : Hp} {Q : Bool → Hp → Prop} (q : tT K W (toB f) σ H Q) : tB (tE K W f) σ H Q := by
  obtain ⟨Γ, S, Hf, μ, sl, so, o⟩ := q
  refine ⟨Γ, S, Hf, μ, sl, so, Out.bind sl rm_eq o fun x S1 v H1 Hf1 μ1 _ s1 sl1 so1 r1 o1 => ?_⟩
  cases x with
  | bl b =>
    obtain rfl : v = .bl b := by simpa only [Rep] using r1
    exact ⟨b, rfl, o1 b H1 Hf1 μ1 (Step.refl _ _ _) so1 rfl⟩
  | _ => exact o1.elim
theorem dt_val (h : DE X W e f) (he : ∀ whole, isTrue e X.env whole = (do let v ← whole; standAt e.pos; holding [v] (truthy v)) := by intro _; rfl) : DT X W e (toB f) :=
  PT_imp (pt_val h he) fun _ _ _ => tE_toB
theorem dt_cmp {o : CmpOp} {r : R2} {op : D → D → Option D} (ho : OpR X (compareOp o) r) (hop : OpD X.K r op) (ha : DE X W a fa) (hb : DE X W b fb) (hm : behindInMarks o b = false) : DT X W (.Compare a [o] [b] pos) (toB (eBin op fa fb)) := by
  refine PT_imp (pt_cmpR ho ha hb hm) fun σ H Q q => ?_
  obtain ⟨Γ, S, Hf, μ, sl, so, o⟩ := tE_toB q
  exact tE_bin hop ⟨Γ, S, Hf, μ, sl, so, o⟩
def bNot (t : Ev Bool) : Ev Bool := fun Γ S => (t Γ S).bind fun b S' => .ok (!b) S'
def bAnd (t u : Ev Bool) : Ev Bool := fun Γ S => (t Γ S).bind fun b S' => if b then u Γ S' else .ok false S'
def bOr (t u : Ev Bool) : Ev Bool := fun Γ S => (t Γ S).bind fun b S' => if b then .ok true S' else u Γ S'
theorem dt_not (h : DT X W a ta) : DT X W (.UnaryOp .Not a pos) (bNot ta) :=
  PT_imp (pt_not h) fun σ H Q ⟨Γ, S, Hf, μ, sl, so, o⟩ => ⟨Γ, S, Hf, μ, sl, so, Out.bind sl rm_eq o fun x S1 v H1 Hf1 μ1 _ s1 sl1 so1 r1 o1 => by
    obtain rfl : x = v := r1
    exact o1 (!x) H1 Hf1 μ1 (Step.refl _ _ _) so1 rfl⟩
/-- a test of and, or, whatever its whole -/
abbrev DW (X : Cx) (W : WX) (e : Expr) (f : Ev Bool) : Prop := PW X e (tT X.K W f)
theorem PW_imp {X : Cx} {e : Expr} {t t' : TT} (h : PW X e t) (k : ∀ σ H Q, t' σ H Q → t σ H Q) : PW X e t' := ⟨fun wh pins s σ H Q I hq => h.run wh pins s σ H Q I (k σ H Q hq)⟩
theorem dw_and1 (h : DT X W a ta) : DW X W (.BoolOp .And [a] pos) ta := pw_and1 h
theorem dw_or1 (h : DT X W a ta) : DW X W (.BoolOp .Or [a] pos) ta := pw_or1 h
theorem dw_and (h : DT X W a ta) (k : DW X W (.BoolOp .And (b :: rest) pos) tb) : DW X W (.BoolOp .And (a :: b :: rest) pos) (bAnd ta tb) :=
  PW_imp (pw_and h k) fun σ H Q ⟨Γ, S, Hf, μ, sl, so, o⟩ => ⟨Γ, S, Hf, μ, sl, so, Out.bind sl rm_eq o fun x S1 v H1 Hf1 μ1 _ s1 sl1 so1 r1 o1 => by
    obtain rfl : x = v := r1
    cases x with
    | true => rw [if_pos rfl] at o1; rw [if_pos rfl]; exact ⟨Γ, S1, Hf1, μ1, sl1, so1, o1⟩
    | false => rw [if_neg Bool.false_ne_true] at o1; rw [if_neg Bool.false_ne_true]; exact o1 false H1 Hf1 μ1 (Step.refl _ _ _) so1 rfl⟩
theorem dw_or (h : DT X W a ta) (k : DW X W (.BoolOp .Or (b :: rest) pos) tb) : DW X W (.BoolOp .Or (a :: b :: rest) pos) (bOr ta tb) :=
  PW_imp (pw_or h k) fun σ H Q ⟨Γ, S, Hf, μ, sl, so, o⟩ => ⟨Γ, S, Hf, μ, sl, so, Out.bind sl rm_eq o fun x S1 v H1 Hf1 μ1 _ s1 sl1 so1 r1 o1 => by
    obtain rfl : x = v := r1
    cases x with
    | true => rw [if_pos rfl] at o1; rw [if_pos rfl]; exact o1 true H1 Hf1 μ1 (Step.refl _ _ _) so1 rfl
    | false => rw [if_neg Bool.false_ne_true] at o1; rw [if_neg Bool.false_ne_true]; exact ⟨Γ, S1, Hf1, μ1, sl1, so1, o1⟩⟩
/-- as values -/
def eNot (f : Ev D) : Ev D := fun Γ S => (f Γ S).bind fun d S' => match d with
  | .bl b => .ok (.bl (!b)) S'
  | _ => .no
theorem de_not (h : DE X W a fa) : DE X W (.UnaryOp .Not a pos) (eNot fa) :=
  PE_imp (pe_not h) fun σ H Q ⟨Γ, S, Hf, μ, sl, so, o⟩ => ⟨Γ, S, Hf, μ, sl, so, Out.bind sl rm_rep o fun x S1 v H1 Hf1 μ1 _ s1 sl1 so1 r1 o1 => by
    cases x with
    | bl b =>
      obtain rfl : v = .bl b := by simpa only [Rep] using r1
      exact ⟨b, rfl, o1 (.bl (!b)) H1 Hf1 μ1 (Step.refl _ _ _) so1 (by simp only [Rep])⟩
    | _ => exact o1.elim⟩
def eAnd (f g : Ev D) : Ev D := fun Γ S => (f Γ S).bind fun x S' => match x with
  | .bl true => g Γ S'
  | .bl false => .ok (.bl false) S'
  | _ => .no
def eOr (f g : Ev D) : Ev D := fun Γ S => (f Γ S).bind fun x S' => match x with
  | .bl true => .ok (.bl true) S'
  | .bl false => g Γ S'
  | _ => .no
theorem de_one {op} (h : DE X W a fa) : DE X W (.BoolOp op [a] pos) fa := pe_one h
theorem de_and (h : DE X W a fa) (k : DE X W (.BoolOp .And (b :: rest) pos) fb) : DE X W (.BoolOp .And (a :: b :: rest) pos) (eAnd fa fb) :=
  PE_imp (pe_and h k) fun σ H Q ⟨Γ, S, Hf, μ, sl, so, o⟩ => ⟨Γ, S, Hf, μ, sl, so, Out.bind sl rm_rep o fun x S1 v H1 Hf1 μ1 _ s1 sl1 so1 r1 o1 => by
    cases x with
    | bl c =>
      obtain rfl : v = .bl c := by simpa only [Rep] using r1
      refine ⟨c, rfl, ?_⟩
      cases c with
      | true => rw [if_pos rfl]; exact ⟨Γ, S1, Hf1, μ1, sl1, so1, o1⟩
      | false => rw [if_neg Bool.false_ne_true]; exact o1 (.bl false) H1 Hf1 μ1 (Step.refl _ _ _) so1 (by simp only [Rep])
    | _ => exact o1.elim⟩
theorem de_or (h : DE X W a fa) (k : DE X W (.BoolOp .Or (b :: rest) pos) fb) : DE X W (.BoolOp .Or (a :: b :: rest) pos) (eOr fa fb) :=
  PE_imp (pe_or h k) fun σ H Q ⟨Γ, S, Hf, μ, sl, so, o⟩ => ⟨Γ, S, Hf, μ, sl, so, Out.bind sl rm_rep o fun x S1 v H1 Hf1 μ1 _ s1 sl1 so1 r1 o1 => by
    cases x with
    | bl c =>
      obtain rfl : v = .bl c := by simpa only [Rep] using r1
      refine ⟨c, rfl, ?_⟩
      cases c with
      | true => rw [if_pos rfl]; exact o1 (.bl true) H1 Hf1 μ1 (Step.refl _ _ _) so1 (by simp only [Rep])
      | false => rw [if_neg Bool.false_ne_true]; exact ⟨Γ, S1, Hf1, μ1, sl1, so1, o1⟩
    | _ => exact o1.elim⟩
/-- a if c else b -/
def eIf (c : Ev Bool) (f g : Ev D) : Ev D := fun Γ S => (c Γ S).bind fun b S' => if b then f Γ S' else g Γ S'
theorem de_if (hc : DT X W c tc) (ha : DE X W a fa) (hb : DE X W b fb) : DE X W (.IfExp c a b pos) (eIf tc fa fb) :=
  PE_imp (pe_ifExp hc ha hb) fun σ H Q ⟨Γ, S, Hf, μ, sl, so, o⟩ => ⟨Γ, S, Hf, μ, sl, so, Out.bind sl rm_rep o fun x S1 v H1 Hf1 μ1 _ s1 sl1 so1 r1 o1 => by
    obtain rfl : x = v := r1
    cases x with
    | true => rw [if_pos rfl] at o1; rw [if_pos rfl]; exact ⟨Γ, S1, Hf1, μ1, sl1, so1, o1⟩
    | false => rw [if_neg Bool.false_ne_true] at o1; rw [if_neg Bool.false_ne_true]; exact ⟨Γ, S1, Hf1, μ1, sl1, so1, o1⟩⟩
end

/-! ### argument lists, displays -/
def aNil : Ev (List D) := fun _ S => .ok [] S
def aCons (f : Ev D) (g : Ev (List D)) : Ev (List D) := fun Γ S => (f Γ S).bind fun d S1 => (g Γ S1).bind fun ds S2 => .ok (d :: ds) S2
def eTup (g : Ev (List D)) : Ev D := fun Γ S => (g Γ S).bind fun ds S1 => if ds.length ≤ sizeLine then .ok (.tup ds) S1 else .no
def nLst (g : Ev (List D)) : Ev SO := fun Γ S => (g Γ S).bind fun ds S1 => if ds.length ≤ sizeLine then .ok (.lst ds) S1 else .no
section
variable {X : Cx} {W : WX} {e : Expr} {es : List Expr} {f : Ev D} {g : Ev (List D)} {fn : Ev SO} {pos : Pos}
theorem da_nil : DA X W [] aNil := PA_imp pa_nil fun σ H Q ⟨Γ, S, Hf, μ, sl, so, o⟩ => o [] H Hf μ (Step.refl _ _ _) so RepL.nil
theorem da_cons (h : DE X W e f) (k : DA X W es g) (hs : starEach (e :: es) X.env = (false, eval e X.env) :: starEach es X.env := by rfl) : DA X W (e :: es) (aCons f g) :=
  PA_imp (pa_cons h k hs) fun σ H Q ⟨Γ, S, Hf, μ, sl, so, o⟩ => ⟨Γ, S, Hf, μ, sl, so, Out.bind sl rm_repL o fun d S1 v H1 Hf1 μ1 _ s1 sl1 so1 r1 o1 =>
    ⟨Γ, S1, Hf1, μ1, sl1, so1, Out.bind sl1 rm_repL o1 fun ds S2 vs H2 Hf2 μ2 _ s2 sl2 so2 r2 o2 => o2 (v :: vs) H2 Hf2 μ2 (Step.refl _ _ _) so2 (RepL.cons (s2.rep r1) r2)⟩⟩
/-- a tuple is laid and frozen -/
theorem Step.lay {K : PySem.W.Frag} {S : Store} {H Hf : Hp} {μ : List Addr} {p : Addr} {u : HO} (so : StoOk K S H Hf μ) (hp : H p = none) :
    Step H Hf μ (upd H p u) (upd Hf p u) μ ∧ StoOk K S (upd H p u) (upd Hf p u) μ := by
  have hf : Hf p = none := Classical.byContradiction fun z => by
    cases e : Hf p with
    | none => exact z e
    | some o => rw [so.sub p o e] at hp; cases hp
  have sb : Sub Hf (upd Hf p u) := fun a o e => by rw [upd_ne (ne_of_none e hf)]; exact e
  have nm : ∀ a ∈ μ, a ≠ p := fun a m z => by
    obtain ⟨n, e⟩ := List.mem_iff_getElem?.mp m
    have hn : n < S.length := by rw [← so.len]; exact (List.getElem?_eq_some_iff.mp e).1
    obtain ⟨w', e1, _⟩ := so.ob n S[n] a (by simp [hn]) e
    rw [z, hp] at e1
    cases e1
  refine ⟨⟨fun a o e _ => by rw [upd_ne (ne_of_none e hp)]; exact e, sb, fun a h1 h2 => ?_, Pre.refl _, fun a m => .inl m, fun a h => ?_⟩, ⟨fun a o e => ?_, so.len, so.nd, fun n o a e1 e2 => ?_, fun a m => ?_⟩⟩
  · rw [upd_ne (show a ≠ p from fun z => h2 (z ▸ hp))]; exact h1
  · rw [upd_ne (show a ≠ p from fun z => h (z ▸ hp))]; exact h
  · by_cases z : a = p
    · subst z; rw [upd_same] at e ⊢; exact e
    · rw [upd_ne z] at e ⊢; exact so.sub a o e
  · obtain ⟨w', q1, q2⟩ := so.ob n o a e1 e2
    exact ⟨w', by rw [upd_ne (nm a (List.mem_of_getElem? e2))]; exact q1, q2.mono sb (Pre.refl _)⟩
  · rw [upd_ne (nm a m)]; exact so.fz a m
/-- a new object is laid, unknown to others -/
theorem Step.layN {K : PySem.W.Frag} {S : Store} {H Hf : Hp} {μ : List Addr} {p : Addr} {u : HO} (so : StoOk K S H Hf μ) (hp : H p = none) :
    Step H Hf μ (upd H p u) Hf μ ∧ StoOk K S (upd H p u) Hf μ ∧ Hf p = none ∧ p ∉ μ := by
  have hf : Hf p = none := Classical.byContradiction fun z => by
    cases e : Hf p with
    | none => exact z e
    | some o => rw [so.sub p o e] at hp; cases hp
  have nm : ∀ a ∈ μ, a ≠ p := fun a m z => by
    obtain ⟨n, e⟩ := List.mem_iff_getElem?.mp m
    have hn : n < S.length := by rw [← so.len]; exact (List.getElem?_eq_some_iff.mp e).1
    obtain ⟨w', e1, _⟩ := so.ob n S[n] a (by simp [hn]) e
    rw [z, hp] at e1
    cases e1
  refine ⟨⟨fun a o e _ => by rw [upd_ne (ne_of_none e hp)]; exact e, Sub.refl _, fun a h1 h2 => h1, Pre.refl _, fun a m => .inl m, fun a h => ?_⟩, ⟨fun a o e => ?_, so.len, so.nd, fun n o a e1 e2 => ?_, so.fz⟩, hf, fun m => nm p m rfl⟩
  · rw [upd_ne (show a ≠ p from fun z => h (z ▸ hp))]; exact h
  · rw [upd_ne (ne_of_none (so.sub a o e) hp)]; exact so.sub a o e
  · obtain ⟨w', q1, q2⟩ := so.ob n o a e1 e2
    exact ⟨w', by rw [upd_ne (nm a (List.mem_of_getElem? e2))]; exact q1, q2⟩
theorem de_tup {x1} (h : DA X W es g) : DE X W (.Tuple es x1 pos) (eTup g) :=
  PE_imp (pe_tup h) fun σ H Q ⟨Γ, S, Hf, μ, sl, so, o⟩ => ⟨Γ, S, Hf, μ, sl, so, Out.bind sl rm_rep o fun ds S1 vs H1 Hf1 μ1 _ s1 sl1 so1 r1 o1 => by
    by_cases hl : ds.length ≤ sizeLine
    · rw [if_pos hl] at o1
      have hv : vs.length ≤ sizeLine := by rw [r1.length]; exact hl
      refine ⟨hv, fun p hp => ?_⟩
      obtain ⟨st, so2⟩ := Step.lay (u := .tup vs) so1 hp
      exact o1 (.ref p) _ _ μ1 st so2 (by simp only [Rep]; exact ⟨p, vs, rfl, upd_same, hv, st.repL r1⟩)
    · rw [if_neg hl] at o1
      exact o1.elim⟩
theorem dn_lst (h : DA X W es g) : DN X W (.List es pos) (nLst g) :=
  PE_imp (pe_lst h) fun σ H Q ⟨Γ, S, Hf, μ, sl, so, o⟩ => ⟨Γ, S, Hf, μ, sl, so, Out.bind sl rm_new o fun ds S1 vs H1 Hf1 μ1 _ s1 sl1 so1 r1 o1 => by
    by_cases hl : ds.length ≤ sizeLine
    · rw [if_pos hl] at o1
      have hv : vs.length ≤ sizeLine := by rw [r1.length]; exact hl
      refine ⟨hv, fun p hp => ?_⟩
      obtain ⟨st, so2, hf, hm⟩ := Step.layN (u := .lst vs) so1 hp
      exact o1 (.ref p) _ _ μ1 st so2 ⟨p, .lst vs, rfl, hp, upd_same, ⟨vs, rfl, hv, r1⟩, hf, hm⟩
    · rw [if_neg hl] at o1
      exact o1.elim⟩
/-- a new list, frozen at once -/
def eFrz (f : Ev SO) : Ev D := fun Γ S => (f Γ S).bind fun o S1 => match o with
  | .lst ds => .ok (.lst ds) S1
  | _ => .no
theorem Step.frz {K : PySem.W.Frag} {S : Store} {H Hf : Hp} {μ : List Addr} {p : Addr} {u : HO} (so : StoOk K S H Hf μ) (hp : H p = some u) (hf : Hf p = none) (hm : p ∉ μ) :
    Sub Hf (upd Hf p u) ∧ StoOk K S H (upd Hf p u) μ := by
  have sb : Sub Hf (upd Hf p u) := fun a o e => by rw [upd_ne (ne_of_none e hf)]; exact e
  refine ⟨sb, ⟨fun a o e => ?_, so.len, so.nd, fun n o a e1 e2 => ?_, fun a m => ?_⟩⟩
  · by_cases z : a = p
    · subst z; rw [upd_same] at e; rw [hp]; exact e
    · rw [upd_ne z] at e; exact so.sub a o e
  · obtain ⟨w', q1, q2⟩ := so.ob n o a e1 e2
    exact ⟨w', q1, q2.mono sb (Pre.refl _)⟩
  · rw [upd_ne (show a ≠ p from fun z => hm (z ▸ m))]; exact so.fz a m
theorem tE_frz {K : PySem.W.Frag} {σ : L2.St} {H : Hp} {Q : VK} (q : tE K W (eFrz fn) σ H Q) : tN K W fn σ H Q := by
  obtain ⟨Γ, S, Hf, μ, sl, so, o⟩ := q
  refine ⟨Γ, S, Hf, μ, sl, so, ?_⟩
  unfold eFrz at o
  cases e : fn Γ S with
  | no => rw [e] at o; exact o
  | ex C fs S1 => rw [e] at o; exact o
  | ok d S1 =>
    rw [e, RE.bind_ok] at o
    cases d with
    | lst ds =>
      intro v H1 Hf1 μ1 s1 so1 r1
      obtain ⟨p, u, rfl, hn, hp, ⟨xs, rfl, z, r⟩, hf, hm⟩ := r1
      obtain ⟨sb, so2⟩ := Step.frz so1 hp hf hm
      refine o (.ref p) H1 _ μ1 ⟨s1.fr, s1.fz.trans sb, fun a h1 h2 => ?_, s1.mu, s1.nm, s1.th⟩ so2 ?_
      · rw [upd_ne (show a ≠ p from fun z => h2 (z ▸ hn))]; exact s1.nf a h1 h2
      · simp only [Rep]; exact ⟨p, xs, rfl, upd_same, z, RepL.mono sb (Pre.refl _) _ _ r⟩
    | _ => exact o.elim
theorem de_frz (h : DN X W e fn) : DE X W e (eFrz fn) := PE_imp h fun _ _ _ => tE_frz
/-- told as used at once -/
def eB (f : Ev D) : Ev D := f
theorem db_of (h : DE X W e f) : DB X W e f :=
  PE_imp h fun σ H Q ⟨Γ, S, Hf, μ, sl, so, o⟩ => ⟨Γ, S, Hf, μ, sl, so, by
    cases e : f Γ S with
    | no => rw [e] at o; exact o
    | ex C fs S1 => rw [e] at o; exact o
    | ok d S1 =>
      rw [e] at o
      exact fun v H1 Hf1 μ1 s1 so1 r1 => o v H1 Hf1 μ1 s1 so1 (.inl r1)⟩
def eVb (i : Nat) : Ev D := fun Γ S => match Γ[i]? with
  | some (some (.val d)) => .ok d S
  | some (some (.own (.lst ds))) => .ok (.lst ds) S
  | _ => .no
theorem db_v (i : Nat) {x : PySem.Str} {pos : Pos} (hN : X.N[i]? = some x := by rfl) (hv : Vis X.env.scope x := by first | exact Or.inl rfl | exact Or.inr (Or.inl rfl) | exact Or.inr (Or.inr rfl)) (hd : (x == ("__debug__" : PySem.Str)) = false := by decide)
    (hcd : (x == ("__classdict__" : PySem.Str)) = false := by decide) : DB X W (.Name x pos) (eVb i) := by
  refine PE_imp (pe_var (i := i) hN hv hd hcd) fun σ H Q ⟨Γ, S, Hf, μ, sl, so, o⟩ => ?_
  unfold eVb at o
  cases e : Γ[i]? with
  | none => rw [e] at o; exact o.elim
  | some s =>
    cases s with
    | none => rw [e] at o; exact o.elim
    | some s =>
      cases s with
      | own u =>
        rw [e] at o
        cases u with
        | lst ds =>
          obtain ⟨p, u, e1, _⟩ := sl.own i _ e
          exact ⟨.ref p, e1, o (.ref p) H Hf μ (Step.refl _ _ _) so (.inr ⟨i, ds, e, e1, rfl⟩)⟩
        | _ => exact o.elim
      | val d =>
        rw [e] at o
        obtain ⟨v, e1, r⟩ := sl.val i d e
        exact ⟨v, e1, o v H Hf μ (Step.refl _ _ _) so (.inl r)⟩
/-- what is known of a value that is used at once -/
def Bor (K : PySem.W.Frag) (H Hf : Hp) (μ : List Addr) (d : D) (v : V) : Prop :=
  Rep K μ Hf d v ∨ ∃ ds a xs, d = .lst ds ∧ v = V.ref a ∧ H a = some (.lst xs) ∧ xs.length ≤ sizeLine ∧ RepL K μ Hf ds xs
theorem BorR.bor {K : PySem.W.Frag} {Γ : Gm} {σ : L2.St} {H Hf H0 : Hp} {μ : List Addr} {d : D} {v : V} (sl : SlOk K Γ σ H Hf μ) (r : BorR K σ Γ H0 H Hf μ d v) : Bor K H Hf μ d v := by
  rcases r with r | ⟨i, ds, e1, e2, rfl⟩
  · exact .inl r
  · obtain ⟨p, u, e3, hp, ⟨xs, rfl, z, q⟩, _⟩ := sl.own i _ e1
    rw [e2] at e3
    cases e3
    exact .inr ⟨ds, p, xs, rfl, rfl, hp, z, q⟩
/-- the items of a list, a tuple, a list of the store -/
def viewL (S : Store) : D → Option (List D)
  | .lst ds => some ds
  | .kst ds => some ds
  | .tup ds => some ds
  | .loc n => match S[n]? with
    | some (.lst ds) => some ds
    | _ => none
  | _ => none
theorem viewL_ok {K : PySem.W.Frag} {S : Store} {H Hf : Hp} {μ : List Addr} {d : D} {v : V} {ds : List D} (so : StoOk K S H Hf μ) (b : Bor K H Hf μ d v) (h : viewL S d = some ds) :
    ∃ a xs, v = V.ref a ∧ (SqL K H a xs ∨ SqT K H a xs) ∧ xs.length ≤ sizeLine ∧ RepL K μ Hf ds xs := by
  rcases b with r | ⟨es, a, xs, rfl, rfl, hp, z, q⟩
  · cases d with
    | lst es =>
      simp only [Rep] at r
      obtain ⟨a, xs, e, q, z, rl⟩ := r
      cases h
      exact ⟨a, xs, e, .inl (SqL.of (so.sub _ _ q)), z, rl⟩
    | kst es =>
      simp only [Rep] at r
      obtain ⟨a, xs, e, q, z, rl⟩ := r
      cases h
      exact ⟨a, xs, e, .inl (so.sub.sl q), z, rl⟩
    | tup es =>
      simp only [Rep] at r
      obtain ⟨a, xs, e, q, z, rl⟩ := r
      cases h
      exact ⟨a, xs, e, .inr (so.sub.tp q), z, rl⟩
    | loc n =>
      simp only [Rep] at r
      obtain ⟨a, e, q⟩ := r
      have h : (match S[n]? with | some (.lst ds) => some ds | _ => none : Option (List D)) = some ds := h
      cases e2 : S[n]? with
      | none => rw [e2] at h; cases h
      | some o =>
        rw [e2] at h
        cases o with
        | lst es =>
          cases h
          obtain ⟨u, h1, ⟨xs, rfl, z, r⟩⟩ := so.ob n _ a e2 q
          exact ⟨a, xs, e, .inl (SqL.of h1), z, r⟩
        | _ => cases h
    | _ => cases h
  · cases h
    exact ⟨a, xs, rfl, .inl (SqL.of hp), z, q⟩
end
end DL
set_option Elab.async false
set_option linter.all false
set_option maxRecDepth 100000
/-! DLc: defs and their calls. -/
namespace DL
open PySem PySem.Spec PyProof.Rows L2

/-- a def at f keeps a promise, where nothing is being shown (guards) -/
structure FnG (P : Program) (w : World) (K : PySem.W.Frag) (mg : PySem.Str → Option Value) (base : Heap) (k : Nat) (f : Addr) (fd : FuncData) (ps : List PySem.Str) (sp : Sp) : Prop where
  len : ∀ vs H Q E, sp vs H Q E → vs.length = ps.length
  run : ∀ (A : Around) (outer : List Env) (s : Shared) (H : Hp) (args : Args) (us : List Value) (vs : List V) (Q : VK) (E : XK), Room k A → A.guards = some [] →
    Env0 P w K mg base A outer s H → BindsTo s fd args (ps.zip us) → Vals vs us → sp vs H Q E → codeAny (model P w) A (.call (.ref f) args) (CR (L2.CX P w) outer P w H s Q E) s

theorem fnG_of {P : Program} {w : World} {K : PySem.W.Frag} {mg : PySem.Str → Option Value} {base : Heap} {k : Nat} {f : Addr} {x qual : PySem.Str} {params : Arguments} {body : List Stmt} {scope : Scope} {dvs : List V} {kws : List (PySem.Str × V)} {fd : FuncData}
    {N ps : List PySem.Str} {sp : Sp} (F : FunD K x qual params body scope dvs kws f fd) (S : FnScope N ps scope) (len : ∀ vs H Q E, sp vs H Q E → vs.length = ps.length)
    (hbody : ∀ (cdv : Value) (A : Around) (outer : List Env) (s : Shared) (H : Hp) (vs : List V) (Q : VK) (E : XK), Room k (A.deeper (envOfC qual scope s.heap.objs.size f cdv)) → (A.deeper (envOfC qual scope s.heap.objs.size f cdv)).guards = some [] → sp vs H Q E →
      ∃ t, PSs (cxOf (L2.CX P w) P w K mg base N qual scope f cdv A outer s H E) body t ∧ t { nx := fun _ H' => Q .non H', rt := Q } (L2.start N vs) H) : FnG P w K mg base (k + 1) f fd ps sp := by
  obtain ⟨oc, od, dV, kV, doc, pm, an, cdv, ct, osl, rfl, lk, hcd, _, _⟩ := F.ex
  refine ⟨len, fun A outer s H args us vs Q E hr hgd e0 hb r hsp => ?_⟩
  have lps := len _ _ _ _ hsp
  have below : ∀ b o, base.get? b = some o → s.heap.get? b = some o := fun b o e => (e0.bs b o e).1
  have inK : K.In s.heap := e0.mod.kin.keeps below
  have nolim : s.heap.NoLimit := e0.mod.nolimit.keeps below
  have kinds : ∀ y ∈ ps.zip us, scope.names.lookup y.1 = some .local ∨ (scope.names.lookup y.1 = some .cell ∧ ((cellsFrom (s.heap.objs.size + 1) scope.names []).lookup y.1).isSome = true) := by
    rintro ⟨nm, vl⟩ hy
    exact (S.par nm (List.of_mem_zip hy).1).elim .inl fun q => .inr ⟨q, PySem.W.cellsFrom_some _ _ _ (.inl q)⟩
  refine codeAny_call_function hr.depth (inK _ _ lk) rfl S.co S.gen rfl (PySem.W.codeRec_of inK hcd)
    (hb _ _ _ _ (wpAny_newFunctionEnv_cells S.kind kinds fun env he s1 entered => ?_))
  subst he
  refine ⟨nolim.keeps entered.toInCall.keep, codeAny_func ?_⟩
  obtain ⟨t, ht, hq⟩ := hbody cdv A outer s H vs Q E (hr.deeper _) hgd hsp
  have I0 := inv_start (CX := L2.CX P w) (mg := mg) (base := base) (E := E) S hr.hd e0 lps r entered
  refine wpAny_mono (ht.run [] s1 (L2.start N vs) H _ I0 hq) (fun fl s' hs => ?_) (fun e s' hs => hs)
  cases fl with
  | ret u =>
    obtain ⟨v, σ', H', J, rv, q⟩ := hs
    exact ⟨v, H', J.os, J.bare, J.base, J.hok, rv, q⟩
  | next =>
    obtain ⟨σ', H', J, q⟩ := hs
    exact ⟨V.non, H', J.os, J.bare, J.base, J.hok, (rfl : Value.none = Value.none), q⟩
  | brk => exact hs.elim fun _ z => z.elim fun _ z => z.2.elim
  | cont => exact hs.elim fun _ z => z.elim fun _ z => z.2.elim

/-! ### a def's meaning -/
abbrev Fn := List D → Store → RE D
/-- the promise: what F tells of the arguments comes -/
def spD (K : PySem.W.Frag) (n : Nat) (F : Fn) : Sp := fun vs H Q E => vs.length = n ∧ ∃ ds S Hf μ, RepL K μ Hf ds vs ∧ StoOk K S H Hf μ ∧ Out K (RepR K) (fun c d _ H' => E c d H') [] H Hf μ (F ds S) Q
/-- the slots at the entry -/
def ini (n : Nat) (ds : List D) : Gm := ds.map (fun d => some (.val d)) ++ List.replicate (n - ds.length) none
/-- a body's meaning as a def's -/
def fnOf (n : Nat) (f : Es) : Fn := fun ds S => match f (ini n ds) S with
  | .rt d S' => .ok d S'
  | .nx _ S' => .ok .non S'
  | .ex C fs _ S' => .ex C fs S'
  | _ => .no
theorem ini_get {n : Nat} {ds : List D} {i : Nat} {s : Sl} (h : (ini n ds)[i]? = some (some s)) : ∃ d, s = .val d ∧ ds[i]? = some d := by
  unfold ini at h
  by_cases hi : i < ds.length
  · rw [List.getElem?_append_left (by simpa using hi), List.getElem?_map] at h
    cases e : ds[i]? with
    | none => rw [e] at h; cases h
    | some d => rw [e] at h; cases h; exact ⟨d, rfl, rfl⟩
  · rw [List.getElem?_append_right (by simpa using hi), List.getElem?_replicate] at h
    split at h <;> cases h
theorem Rl.ini {K : PySem.W.Frag} {N : List PySem.Str} {ds : List D} {vs : List V} {S : Store} {H Hf : Hp} {μ : List Addr} (r : RepL K μ Hf ds vs) (so : StoOk K S H Hf μ) : Rl K ⟨H, Hf, μ, fun _ => none, []⟩ (DL.ini N.length ds) S (L2.start N vs) H Hf μ := by
  have no : ∀ {i : Nat} {o : SO}, (DL.ini N.length ds)[i]? = some (some (.own o)) → False := fun {i o} e => by
    obtain ⟨d, e1, _⟩ := ini_get e
    cases e1
  refine ⟨⟨?_, fun i d e => ?_, fun i o e => (no e).elim, fun i j o o' p e => (no e).elim⟩, so, Step.refl _ _ _, fun i o p e => (no e).elim, fun a o e => (nomatch e), fun n a e => (nomatch e)⟩
  · unfold DL.ini L2.start
    simp [r.length]
  · obtain ⟨d', e1, e2⟩ := ini_get e
    cases e1
    obtain ⟨v, e3, q⟩ := r.get e2
    refine ⟨v, ?_, q⟩
    unfold L2.start
    have hi : i < vs.length := (List.getElem?_eq_some_iff.mp e3).1
    rw [List.getElem?_append_left (by simpa using hi), List.getElem?_map, e3]
    rfl

/-- a def of the text: where it stands, what it does -/
def OkD (P : Program) (w : World) (K : PySem.W.Frag) (mg : PySem.Str → Option Value) (base : Heap) (d : He.DefD) (ps : List PySem.Str) (k : Nat) (F : Fn) : Prop :=
  ∃ (f : Addr) (fd : FuncData), mg d.name = some (.ref f) ∧ FunD K d.name d.qual d.params d.body d.scope [] [] f fd ∧ FnG P w K mg base k f fd ps (spD K ps.length F)
section
variable {P : Program} {w : World} {K : PySem.W.Frag} {mg : PySem.Str → Option Value} {base : Heap}
theorem OkD.mk {d : He.DefD} {f : Addr} {fd : FuncData} {N ps : List PySem.Str} {k : Nat} {g : Es} (hm : mg d.name = some (.ref f)) (F : FunD K d.name d.qual d.params d.body d.scope [] [] f fd) (S : FnScope N ps d.scope)
    (hbody : ∀ (cdv : Value) (A : Around) (outer : List Env) (s : Shared) (H : Hp) (E : XK) (B : Base), Room k (cxOf (L2.CX P w) P w K mg base N d.qual d.scope f cdv A outer s H E).A → (cxOf (L2.CX P w) P w K mg base N d.qual d.scope f cdv A outer s H E).A.guards = some [] →
      DSs (cxOf (L2.CX P w) P w K mg base N d.qual d.scope f cdv A outer s H E) B (fun c e _ H' => E c e H') d.body g) : OkD P w K mg base d ps (k + 1) (fnOf N.length g) := by
  refine ⟨f, fd, hm, F, fnG_of F S (fun vs H Q E h => h.1) fun cdv A outer s H vs Q E hr hgd h => ?_⟩
  obtain ⟨_, ds, S0, Hf, μ, r, so, o⟩ := h
  refine ⟨_, hbody cdv A outer s H E ⟨H, Hf, μ, fun _ => none, []⟩ hr hgd (fun _ => none) [], DL.ini N.length ds, S0, Hf, μ, Rl.ini r so, ?_⟩
  unfold fnOf at o
  cases e : g (DL.ini N.length ds) S0 with
  | rt d' S' => rw [e] at o; exact fun v H' Hf' μ' st so' re => o v H' Hf' μ' st so' re
  | nx Γ' S' => rw [e] at o; exact fun σ' H' Hf' μ' rl => o .non H' Hf' μ' rl.st rl.so (by simp only [Rep])
  | ex C fs Γ' S' => rw [e] at o; exact fun dd fv σ' H' Hf' μ' rl hd fr => o dd fv H' Hf' μ' rl.st rl.so hd fr
  | bk Γ' S' => rw [e] at o; exact o.elim
  | ct Γ' S' => rw [e] at o; exact o.elim
  | no => rw [e] at o; exact o.elim
/-- the same def, its meaning told otherwise -/
theorem OkD.as {d : He.DefD} {ps : List PySem.Str} {k : Nat} {F G : Fn} (h : OkD P w K mg base d ps k F) (e : ∀ ds S, G ds S ≠ .no → F ds S = G ds S) : OkD P w K mg base d ps k G := by
  obtain ⟨f, fd, hm, hF, hG⟩ := h
  refine ⟨f, fd, hm, hF, ⟨fun vs H Q E z => z.1, fun A outer s H args us vs Q E hr hgd e0 hb r hs => hG.run A outer s H args us vs Q E hr hgd e0 hb r ?_⟩⟩
  obtain ⟨hl, ds, S, Hf, μ, rl, so, o⟩ := hs
  refine ⟨hl, ds, S, Hf, μ, rl, so, ?_⟩
  rw [e ds S fun z => by rw [z] at o; exact o]
  exact o
end

/-! ### calls -/
def eCall (F : Fn) (g : Ev (List D)) : Ev D := fun Γ S => (g Γ S).bind fun ds S1 => F ds S1
section
variable {X : Cx} {W : WX} {d : He.DefD} {ps : List PySem.Str} {k : Nat} {F : Fn} {e : Expr} {es : List Expr} {g : Ev (List D)} {p pos : Pos}
/-- what lies in the air behind a def's call is the context's wish -/
theorem run_okG {f : Addr} {fd : FuncData} {sp : Sp} {pins : List (Addr × Obj)} {σ : L2.St} {H : Hp} {s : Shared} {Q : VK} {us ws : List Value} {vs : List V} {kw : List (PySem.Str × Value)} (hG : FnG X.prog X.w X.K X.mg X.base k f fd ps sp) (hr : Room k X.A) (hgd : X.A.guards = some []) (tk : Takes X W)
    (hb : BindsTo s fd ⟨us, kw⟩ (ps.zip ws)) (I : Inv X pins σ H s) (r : Vals vs ws) (h : sp vs H Q (WE W σ)) : wpAny (model X.prog X.w) X.A (call (.ref f) us kw) (EP X pins σ Q) X.xe s := by
  refine wpAny_call (codeAny_mono (hG.run X.A X.stack s H ⟨us, kw⟩ ws vs Q (WE W σ) hr hgd I.env0 hb r h) fun z s' hz => ?_)
  match z, hz with
  | .error e, hz => exact passAt tk σ pins H s e s' I hz
  | .ok (.ret u), hz => exact I.after hz
theorem tE_call {K : PySem.W.Frag} {n : Nat} (hn : ∀ Γ S ds S1, g Γ S = .ok ds S1 → ds.length = n) {σ : L2.St} {H : Hp} {Q : VK} (q : tE K W (eCall F g) σ H Q) : tA K W g σ H fun vs H1 => spD K n F vs H1 Q (WE W σ) := by
  obtain ⟨Γ, S, Hf, μ, sl, so, o⟩ := q
  refine ⟨Γ, S, Hf, μ, sl, so, Out.bind sl rm_rep o fun ds S1 vs H1 Hf1 μ1 e s1 sl1 so1 r1 o1 => ⟨by rw [r1.length]; exact hn _ _ _ _ e, ds, S1, Hf1, μ1, r1, so1, ?_⟩⟩
  cases e : F ds S1 with
  | ok d S2 => rw [e] at o1; exact o1
  | ex C fs S2 => rw [e] at o1; exact o1
  | no => rw [e] at o1; exact o1
end
/-- how many arguments a list of arguments has -/
def ALen (g : Ev (List D)) (n : Nat) : Prop := ∀ Γ S ds S1, g Γ S = .ok ds S1 → ds.length = n
theorem ALen.nil : ALen aNil 0 := fun _ _ _ _ h => by cases h; rfl
theorem ALen.cons {f : Ev D} {g : Ev (List D)} {n : Nat} (h : ALen g n) : ALen (aCons f g) (n + 1) := fun Γ S ds S1 e => by
  unfold aCons at e
  cases e1 : f Γ S with
  | no => rw [e1] at e; cases e
  | ex C fs S2 => rw [e1] at e; cases e
  | ok d S2 =>
    rw [e1, RE.bind_ok] at e
    cases e2 : g Γ S2 with
    | no => rw [e2] at e; cases e
    | ex C fs S3 => rw [e2] at e; cases e
    | ok ds' S3 =>
      rw [e2, RE.bind_ok] at e
      cases e
      simp [h _ _ _ _ e2]
section
variable {X : Cx} {W : WX} {d : He.DefD} {ps : List PySem.Str} {k : Nat} {F : Fn} {e : Expr} {es : List Expr} {g : Ev (List D)} {p pos : Pos}
/-- the positional arguments bind -/
def BindsP (d : He.DefD) (ps : List PySem.Str) : Prop := ∀ (kV doc pm : Value) (an : Option Addr) (cdv ct : Value) (us : List Value), us.length = ps.length →
  bindArgs (PySem.W.fnOf d.name d.qual d.params d.body d.scope .none kV doc pm an cdv ct) ⟨us, []⟩ = pure (ps.zip us)
theorem de_call (ok : OkD X.prog X.w X.K X.mg X.base d ps k F) (hb : BindsP d ps) (hr : Room k X.A) (hgd : X.A.guards = some []) (tk : Takes X W) (ha : DA X W (e :: es) g) (hl : ALen g ps.length) (hg : Gl X d.name)
    (hdb : (d.name == ("__debug__" : PySem.Str)) = false := by decide) (he : starEach (e :: es) X.env = (false, eval e X.env) :: starEach es X.env := by rfl) (hpl : (backTo pos (starEach es X.env)).any (·.1) = false := by rfl) :
    DE X W (.Call (.Name d.name p) (e :: es) [] pos) (eCall F g) := by
  obtain ⟨f, fd, hm, hF, hG⟩ := ok
  refine ⟨fun pins s σ H Q I h => wpAny_Call_Name_kw (ld_glob I hg hm ?_ hdb)⟩
  refine PySem.W.callWith_K (h₀ := X.base) I.ok.mod.kin hF.kp (thn (ha.run pos pins s σ H _ I (tE_call hl h)) fun us s1 ⟨vs, H1, I1, r, q⟩ => ⟨I1.kIn, ?_⟩) he hpl
  have lu : us.length = ps.length := by rw [← r.length]; exact hG.len _ _ _ _ q
  exact run_okG hG hr hgd tk (hF.bindsA hb s1 us lu) I1 r q
theorem de_call0 (ok : OkD X.prog X.w X.K X.mg X.base d [] k F) (hb : BindsP d []) (hr : Room k X.A) (hgd : X.A.guards = some []) (tk : Takes X W) (hg : Gl X d.name)
    (hdb : (d.name == ("__debug__" : PySem.Str)) = false := by decide) : DE X W (.Call (.Name d.name p) [] [] pos) (eCall F aNil) := by
  obtain ⟨f, fd, hm, hF, hG⟩ := ok
  refine ⟨fun pins s σ H Q I h => wpAny_Call_Name_kw (ld_glob I hg hm ?_ hdb)⟩
  obtain ⟨Γ, S, Hf, μ, sl, so, o⟩ := h
  refine PySem.W.callWith_K0 I.kIn hF.kp (run_okG (us := []) (vs := []) hG hr hgd tk (hF.bindsA hb s [] rfl) I .nil ⟨rfl, [], S, Hf, μ, RepL.nil, so, ?_⟩)
  have o' : Out X.K (RepR X.K) W σ H Hf μ (F [] S) Q := o
  cases e : F [] S with
  | ok d S2 => rw [e] at o'; exact o'
  | ex C fs S2 => rw [e] at o'; exact o'
  | no => rw [e] at o'; exact o'
/-- keywords: their values, from the left -/
abbrev DK (X : Cx) (W : WX) (kws : List Keyword) (g : Ev (List D)) : Prop := PK X kws (tA X.K W g)
theorem PK_imp {X : Cx} {e : List Keyword} {t t' : TA} (h : PK X e t) (k : ∀ σ H Q, t' σ H Q → t σ H Q) : PK X e t' := ⟨fun pos pins s σ H Q I hq => h.run pos pins s σ H Q I (k σ H Q hq)⟩
theorem dk_nil : DK X W [] aNil := PK_imp pk_nil fun σ H Q ⟨Γ, S, Hf, μ, sl, so, o⟩ => o [] H Hf μ (Step.refl _ _ _) so RepL.nil
theorem dk_cons {nm : Option PySem.Str} {kpos : Pos} {kws : List Keyword} {f : Ev D} (h : DE X W e f) (k : DK X W kws g) : DK X W (⟨nm, e, kpos⟩ :: kws) (aCons f g) :=
  PK_imp (pk_cons h k) fun σ H Q ⟨Γ, S, Hf, μ, sl, so, o⟩ => ⟨Γ, S, Hf, μ, sl, so, Out.bind sl rm_repL o fun d S1 v H1 Hf1 μ1 _ s1 sl1 so1 r1 o1 =>
    ⟨Γ, S1, Hf1, μ1, sl1, so1, Out.bind sl1 rm_repL o1 fun ds S2 vs H2 Hf2 μ2 _ s2 sl2 so2 r2 o2 => o2 (v :: vs) H2 Hf2 μ2 (Step.refl _ _ _) so2 (RepL.cons (s2.rep r1) r2)⟩⟩
/-- places: the parameter i is the is[i]-th of the written ones -/
def perm {α : Type} (is : List Nat) (xs : List α) : List α := is.filterMap fun i => xs[i]?
theorem perm_vals {vs : List V} {us : List Value} (r : Vals vs us) : ∀ is : List Nat, Vals (perm is vs) (perm is us)
  | [] => .nil
  | i :: is => by
    have ih := perm_vals r is
    unfold perm at ih ⊢
    rw [List.filterMap_cons, List.filterMap_cons]
    cases e : vs[i]? with
    | none =>
      have e2 : us[i]? = none := Vals.none_of r e
      rw [e2]
      exact ih
    | some v =>
      obtain ⟨u, e2, q⟩ := Vals.get r e
      rw [e2]
      exact .cons q ih
theorem perm_rep {K : PySem.W.Frag} {μ : List Addr} {Hf : Hp} {ds : List D} {vs : List V} (r : RepL K μ Hf ds vs) : ∀ is : List Nat, RepL K μ Hf (perm is ds) (perm is vs)
  | [] => RepL.nil
  | i :: is => by
    have ih := perm_rep r is
    unfold perm at ih ⊢
    rw [List.filterMap_cons, List.filterMap_cons]
    cases e : ds[i]? with
    | none =>
      have e2 : vs[i]? = none := by
        rw [List.getElem?_eq_none_iff] at e ⊢
        rw [r.length]; exact e
      rw [e2]
      exact ih
    | some d =>
      obtain ⟨v, e2, q⟩ := r.get e
      rw [e2]
      exact RepL.cons q ih
/-- a call by keywords alone -/
def eCallK (F : Fn) (is : List Nat) (g : Ev (List D)) : Ev D := fun Γ S => (g Γ S).bind fun ds S1 => F (perm is ds) S1
def BindsK (d : He.DefD) (ps ks : List PySem.Str) (is : List Nat) : Prop := ∀ (kV doc pm : Value) (an : Option Addr) (cdv ct : Value) (ws : List Value), ws.length = ks.length →
  (perm is ws).length = ps.length ∧ bindArgs (PySem.W.fnOf d.name d.qual d.params d.body d.scope .none kV doc pm an cdv ct) ⟨[], ks.zip ws⟩ = pure (ps.zip (perm is ws))
theorem de_callK {kws : List Keyword} {ks : List PySem.Str} (is : List Nat) (ok : OkD X.prog X.w X.K X.mg X.base d ps k F) (hb : BindsK d ps ks is) (hr : Room k X.A) (hgd : X.A.guards = some []) (tk : Takes X W) (ha : DK X W kws g) (hl : ALen g ks.length) (hg : Gl X d.name)
    (hall : (backToKw pos (keywordEach kws X.env)).all (·.1.isSome) = true := by rfl) (hks : (backToKw pos (keywordEach kws X.env)).filterMap (·.1) = ks := by rfl) (hdb : (d.name == ("__debug__" : PySem.Str)) = false := by decide)
    (hpl : ((backTo pos (starEach [] X.env)).any (·.1) || (backToKw pos (keywordEach kws X.env)).any (·.1.isNone)) = false := by rfl) :
    DE X W (.Call (.Name d.name p) [] kws pos) (eCallK F is g) := by
  obtain ⟨f, fd, hm, hF, hG⟩ := ok
  refine ⟨fun pins s σ H Q I h => wpAny_Call_Name_kw (ld_glob I hg hm ?_ hdb)⟩
  obtain ⟨Γ, S, Hf, μ, sl, so, o⟩ := h
  refine PySem.W.callWith_KW0 (h₀ := X.base) I.ok.mod.kin hF.kp hall (thn (ha.run pos pins s σ H (fun vs H1 => vs.length = ks.length ∧ spD X.K ps.length F (perm is vs) H1 Q (WE W σ)) I ?_) fun ws s2 ⟨zs, H2, I2, rz, q2⟩ => ⟨I2.kIn, ?_⟩) hpl
  · refine ⟨Γ, S, Hf, μ, sl, so, Out.bind sl rm_rep o fun ds S1 vs H1 Hf1 μ1 e s1 sl1 so1 r1 o1 => ?_⟩
    have lv : vs.length = ks.length := by rw [r1.length]; exact hl _ _ _ _ e
    refine ⟨lv, ?_, perm is ds, S1, Hf1, μ1, perm_rep r1 is, so1, ?_⟩
    · obtain ⟨us0, hus⟩ : ∃ us : List Value, Vals vs us ∧ us.length = ks.length := by
        refine ⟨vs.map fun v => match v with
          | .non => .none
          | .bl b => .bool b
          | .int i => .int i 0
          | .str x => .str x 0
          | .byt b => .bytes b 0
          | .flt b => .float b 0
          | .ref a => .ref a
          | .ty n => .type n, ?_, by rw [List.length_map]; exact lv⟩
        clear lv r1
        induction vs with
        | nil => exact .nil
        | cons v vs ih =>
          refine .cons ?_ ih
          cases v <;> first | rfl | exact ⟨_, rfl⟩
      have z := (hb .none .none .none none .none .none us0 hus.2).1
      rw [(perm_vals hus.1 is).length]
      exact z
    · cases e : F (perm is ds) S1 with
      | ok d S2 => rw [e] at o1; exact o1
      | ex C fs S2 => rw [e] at o1; exact o1
      | no => rw [e] at o1; exact o1
  · rw [hks]
    obtain ⟨lz, q3⟩ := q2
    obtain ⟨oc, od, dV, kV, doc, pm, an, cdv, ct, osl, rfl, lk, hcd, hD, hK⟩ := hF.ex
    have hd : dV = .none := by
      rcases hD with ⟨_, z⟩ | ⟨z, _⟩
      · exact z
      · exact absurd rfl z
    subst hd
    exact run_okG hG hr hgd tk (.of_eq (hb kV doc pm an cdv ct ws (by rw [← rz.length]; exact lz)).2) I2 (perm_vals rz is) q3
end
end DL
set_option Elab.async false
set_option linter.all false
set_option maxRecDepth 100000
/-! DLd: targets, what is walked, for, while, list comprehensions. -/
namespace DL
open PySem PySem.Spec PyProof.Rows L2

/-! ### targets -/
structure Tgt where
  run : D → Gm → Option Gm
  ix : List Nat
def tG (K : PySem.W.Frag) (t : Tgt) : TG := fun v σ H Q => ∃ d Γ S Hf μ, SlOk K Γ σ H Hf μ ∧ StoOk K S H Hf μ ∧ Rep K μ Hf d v ∧ match t.run d Γ with
  | some Γ' => ∀ σ', SlOk K Γ' σ' H Hf μ → (∀ (i : Nat) (o : SO) (p : Addr), Γ'[i]? = some (some (.own o)) → σ'[i]? = some (some (V.ref p)) → Γ[i]? = some (some (.own o)) ∧ σ[i]? = some (some (V.ref p))) → (∀ vs : List Nat, (∀ i ∈ t.ix, i ∈ vs) → wipe σ' vs = wipe σ vs) → Q σ' H
  | none => False
def tGs (K : PySem.W.Frag) (t : List D → Gm → Option Gm) (ix : List Nat) : TGs := fun vs σ H Q => ∃ ds Γ S Hf μ, SlOk K Γ σ H Hf μ ∧ StoOk K S H Hf μ ∧ RepL K μ Hf ds vs ∧ match t ds Γ with
  | some Γ' => ∀ σ', SlOk K Γ' σ' H Hf μ → (∀ (i : Nat) (o : SO) (p : Addr), Γ'[i]? = some (some (.own o)) → σ'[i]? = some (some (V.ref p)) → Γ[i]? = some (some (.own o)) ∧ σ[i]? = some (some (V.ref p))) → (∀ vs : List Nat, (∀ i ∈ ix, i ∈ vs) → wipe σ' vs = wipe σ vs) → Q σ' H
  | none => False
abbrev DG (X : Cx) (tg : Expr) (t : Tgt) : Prop := PG X tg (tG X.K t)
abbrev DGs (X : Cx) (tgs : List Expr) (t : List D → Gm → Option Gm) (ix : List Nat) : Prop := PGs X tgs (tGs X.K t ix)
theorem PG_imp {X : Cx} {e : Expr} {t t' : TG} (h : PG X e t) (k : ∀ v σ H Q, t' v σ H Q → t v σ H Q) : PG X e t' := ⟨fun pins s σ H v u Q I r hq => h.run pins s σ H v u Q I r (k v σ H Q hq)⟩
theorem PGs_imp {X : Cx} {e : List Expr} {t t' : TGs} (h : PGs X e t) (k : ∀ v σ H Q, t' v σ H Q → t v σ H Q) : PGs X e t' := ⟨fun pins s σ H v u Q I r hq => h.run pins s σ H v u Q I r (k v σ H Q hq)⟩
theorem PG_or {X : Cx} {e : Expr} {t t' : TG} (h : PG X e t) (h' : PG X e t') : PG X e (fun v σ H Q => t v σ H Q ∨ t' v σ H Q) :=
  ⟨fun pins s σ H v u Q I r hq => hq.elim (h.run pins s σ H v u Q I r) (h'.run pins s σ H v u Q I r)⟩
theorem wipe_set {σ : L2.St} {i : Nat} {x : Option V} : ∀ {vs : List Nat}, i ∈ vs → wipe (σ.set i x) vs = wipe σ vs
  | v :: vs, h => by
    unfold wipe
    by_cases hv : i ∈ vs
    · rw [wipe_set hv]
    · have hi : i = v := (List.mem_cons.mp h).elim id fun z => absurd z hv
      subst hi
      have go : ∀ {ws : List Nat}, i ∉ ws → wipe (σ.set i x) ws = (wipe σ ws).set i x := fun {ws} hw => by
        induction ws with
        | nil => rfl
        | cons w ws ih =>
          unfold wipe
          rw [ih fun z => hw (List.mem_cons_of_mem _ z), List.set_comm]
          exact fun z => hw (z ▸ List.mem_cons_self)
      rw [go hv, List.set_set]
def gV (i : Nat) : Tgt := ⟨fun d Γ => some (Γ.set i (some (.val d))), [i]⟩
theorem own_setV {Γ : Gm} {σ : L2.St} {i j : Nat} {d : D} {v : V} {o : SO} {p : Addr} (e1 : (Γ.set i (some (.val d)))[j]? = some (some (.own o))) (e2 : (σ.set i (some v))[j]? = some (some (V.ref p))) :
    Γ[j]? = some (some (.own o)) ∧ σ[j]? = some (some (V.ref p)) := by
  by_cases hj : i = j
  · subst hj
    by_cases hl : i < Γ.length
    · rw [List.getElem?_set_self hl] at e1
      cases e1
    · rw [List.getElem?_eq_none (by rw [List.length_set]; omega)] at e1
      cases e1
  · rw [List.getElem?_set_ne hj] at e1 e2
    exact ⟨e1, e2⟩
section
variable {X : Cx} {pos : Pos}
theorem dg_v (i : Nat) {x : PySem.Str} (hN : X.N.Nodup) (hi : X.N[i]? = some x := by rfl) (hx : Loc X.env.scope x := by first | exact Or.inl rfl | exact Or.inr rfl) (hf : X.fn x = true ∨ X.env.scope.names.lookup x = some .local := by first | exact .inl rfl | exact .inr rfl | assumption) :
    DG X (.Name x pos) (gV i) := PG_imp (pg_name hN hi hx hf) fun v σ H Q ⟨d, Γ, S, Hf, μ, sl, so, r, o⟩ => by
  have o' : ∀ σ', SlOk X.K (Γ.set i (some (.val d))) σ' H Hf μ → (∀ (j : Nat) (o : SO) (p : Addr), (Γ.set i (some (.val d)))[j]? = some (some (.own o)) → σ'[j]? = some (some (V.ref p)) → Γ[j]? = some (some (.own o)) ∧ σ[j]? = some (some (V.ref p))) →
    (∀ vs : List Nat, (∀ k ∈ [i], k ∈ vs) → wipe σ' vs = wipe σ vs) → Q σ' H := o
  exact o' _ (sl.setV i r) (fun j o p e1 e2 => own_setV e1 e2) fun vs h => wipe_set (h i (by simp))
def gNilR : List D → Gm → Option Gm := fun ds Γ => match ds with
  | [] => some Γ
  | _ => none
def gConsR (t : Tgt) (u : List D → Gm → Option Gm) : List D → Gm → Option Gm := fun ds Γ => match ds with
  | d :: r => match t.run d Γ with
    | some Γ' => u r Γ'
    | none => none
  | [] => none
theorem dgs_nil : DGs X [] gNilR [] := PGs_imp pgs_nil fun vs σ H Q ⟨ds, Γ, S, Hf, μ, sl, so, r, o⟩ => by
  cases ds with
  | nil =>
    simp only [RepL] at r
    exact ⟨r, o σ sl (fun i o p e1 e2 => ⟨e1, e2⟩) fun _ _ => rfl⟩
  | cons d ds => exact o.elim
theorem dgs_cons {e : Expr} {es : List Expr} {t : Tgt} {u : List D → Gm → Option Gm} {ix : List Nat} (h : DG X e t) (k : DGs X es u ix)
    (hs : (assignEach (e :: es) X.env).map (·.2) = assign e X.env :: (assignEach es X.env).map (·.2) := by rfl) : DGs X (e :: es) (gConsR t u) (t.ix ++ ix) :=
  PGs_imp (pgs_cons h k hs) fun vs σ H Q ⟨ds, Γ, S, Hf, μ, sl, so, r, o⟩ => by
    cases ds with
    | nil => exact o.elim
    | cons d ds =>
      simp only [RepL] at r
      obtain ⟨x, xs, rfl, q, r⟩ := r
      refine ⟨x, xs, rfl, d, Γ, S, Hf, μ, sl, so, q, ?_⟩
      unfold gConsR at o
      cases e1 : t.run d Γ with
      | none => simp only [e1] at o
      | some Γ1 =>
        simp only [e1] at o
        intro σ1 sl1 ow1 wp1
        refine ⟨ds, Γ1, S, Hf, μ, sl1, so, r, ?_⟩
        cases e2 : u ds Γ1 with
        | none => simp only [e2] at o
        | some Γ2 =>
          simp only [e2] at o
          intro σ2 sl2 ow2 wp2
          exact o σ2 sl2 (fun i oo p z1 z2 => let ⟨y1, y2⟩ := ow2 i oo p z1 z2; ow1 i oo p y1 y2) fun ws hw => (wp2 ws fun i hi => hw i (List.mem_append_right _ hi)).trans (wp1 ws fun i hi => hw i (List.mem_append_left _ hi))
/-- several names, out of a tuple or a list -/
def gT (n : Nat) (u : List D → Gm → Option Gm) (ix : List Nat) : Tgt := ⟨fun d Γ => match d with
  | .tup ds => if ds.length = n then u ds Γ else none
  | .lst ds => if ds.length = n then u ds Γ else none
  | _ => none, ix⟩
theorem dg_t {es : List Expr} {kk : Nat} {u : List D → Gm → Option Gm} {ix : List Nat} {n : Nat} (hc : X.calm = true) (h : DGs X es u ix)
    (hn : (assignEach es X.env).length = n := by rfl) (hst : (assignEach es X.env).findIdx? (·.1) = none := by rfl) : DG X (.Tuple es kk pos) (gT n u ix) :=
  PG_imp (PG_or (pg_tup hc h hn hst) (pg_lst hc h hn hst)) fun v σ H Q ⟨d, Γ, S, Hf, μ, sl, so, r, o⟩ => by
    cases d with
    | tup ds =>
      simp only [Rep] at r
      obtain ⟨a, xs, e, q, z, rl⟩ := r
      by_cases hl : ds.length = n
      · refine .inl ⟨a, xs, e, so.sub.tp q, by rw [rl.length]; exact hl, ds, Γ, S, Hf, μ, sl, so, rl, ?_⟩
        simp only [gT, if_pos hl] at o
        exact o
      · simp only [gT, if_neg hl] at o
    | lst ds =>
      simp only [Rep] at r
      obtain ⟨a, xs, e, q, z, rl⟩ := r
      by_cases hl : ds.length = n
      · refine .inr ⟨a, xs, e, SqL.of (so.sub _ _ q), by rw [rl.length]; exact hl, ds, Γ, S, Hf, μ, sl, so, rl, ?_⟩
        simp only [gT, if_pos hl] at o
        exact o
      · simp only [gT, if_neg hl] at o
    | _ => exact o.elim
end

/-! ### what is walked -/
structure WkI (K : PySem.W.Frag) (J : It) (G : Hp → Hp → List Addr → Prop) (ds : List D) : Prop where
  goes : ∀ i S' H' Hf' μ', i < ds.length → G H' Hf' μ' → StoOk K S' H' Hf' μ' → J.go i H'
  yields : ∀ i S' H' Hf' μ' x H2, i < ds.length → G H' Hf' μ' → StoOk K S' H' Hf' μ' → J.yld i H' x H2 → ∃ d Hf2, ds[i]? = some d ∧ Step H' Hf' μ' H2 Hf2 μ' ∧ StoOk K S' H2 Hf2 μ' ∧ Rep K μ' Hf2 d x
  stops : ∀ S' H' Hf' μ', G H' Hf' μ' → StoOk K S' H' Hf' μ' → J.stop ds.length H'
theorem WkI.imp {K : PySem.W.Frag} {J : It} {G G' : Hp → Hp → List Addr → Prop} {ds : List D} (w : WkI K J G ds) (h : ∀ a b c, G' a b c → G a b c) : WkI K J G' ds :=
  ⟨fun i S' H' Hf' μ' hi g => w.goes i S' H' Hf' μ' hi (h _ _ _ g), fun i S' H' Hf' μ' x H2 hi g => w.yields i S' H' Hf' μ' x H2 hi (h _ _ _ g), fun S' H' Hf' μ' g => w.stops S' H' Hf' μ' (h _ _ _ g)⟩
/-- what stays frozen -/
def GF (Hf : Hp) (μ : List Addr) : Hp → Hp → List Addr → Prop := fun _ Hf2 μ2 => Sub Hf Hf2 ∧ Pre μ μ2
def GS (H Hf : Hp) (μ : List Addr) : Hp → Hp → List Addr → Prop := fun H2 Hf2 μ2 => Step H Hf μ H2 Hf2 μ2
theorem GS.gf {H Hf H2 Hf2 : Hp} {μ μ2 : List Addr} (h : GS H Hf μ H2 Hf2 μ2) : GF Hf μ H2 Hf2 μ2 := ⟨h.fz, h.mu⟩
def ItF (K : PySem.W.Frag) : RR (List D) It := fun _ _ Hf' μ' ds J => WkI K J (GF Hf' μ') ds
def ItS (K : PySem.W.Frag) : RR (List D) It := fun _ H' Hf' μ' ds J => WkI K J (GS H' Hf' μ') ds
theorem rm_itF {K : PySem.W.Frag} : RMono (ItF K) := fun _ _ _ _ _ _ _ _ h => h
theorem rm_itS {K : PySem.W.Frag} : RMono (ItS K) := fun _ _ _ _ _ _ _ _ h => h
def tIF (K : PySem.W.Frag) (W : WX) (f : Ev (List D)) : TI := fun σ H R => ∃ Γ S Hf μ, SlOk K Γ σ H Hf μ ∧ StoOk K S H Hf μ ∧ Out K (ItF K) W σ H Hf μ (f Γ S) R
def tIS (K : PySem.W.Frag) (W : WX) (f : Ev (List D)) : TI := fun σ H R => ∃ Γ S Hf μ, SlOk K Γ σ H Hf μ ∧ StoOk K S H Hf μ ∧ Out K (ItS K) W σ H Hf μ (f Γ S) R
/-- walked, frozen; walked while nothing changes -/
abbrev DI (X : Cx) (W : WX) (tg iter : Expr) (f : Ev (List D)) : Prop := PI X tg iter (tIF X.K W f)
abbrev DJ (X : Cx) (W : WX) (tg iter : Expr) (f : Ev (List D)) : Prop := PI X tg iter (tIS X.K W f)
theorem PI_imp {X : Cx} {tg e : Expr} {t t' : TI} (h : PI X tg e t) (k : ∀ σ H R, t' σ H R → t σ H R) : PI X tg e t' := ⟨fun pins s σ H R I hq => h.run pins s σ H R I (k σ H R hq)⟩
theorem PI_or {X : Cx} {tg e : Expr} {t t' : TI} (h : PI X tg e t) (h' : PI X tg e t') : PI X tg e (fun σ H R => t σ H R ∨ t' σ H R) :=
  ⟨fun pins s σ H R I hq => hq.elim (h.run pins s σ H R I) (h'.run pins s σ H R I)⟩
theorem dj_of {X : Cx} {W : WX} {tg e : Expr} {f : Ev (List D)} (h : DI X W tg e f) : DJ X W tg e f :=
  PI_imp h fun σ H R ⟨Γ, S, Hf, μ, sl, so, o⟩ => ⟨Γ, S, Hf, μ, sl, so, by
    cases e : f Γ S with
    | no => rw [e] at o; exact o
    | ex C fs S1 => rw [e] at o; exact o
    | ok d S1 =>
      rw [e] at o
      exact fun v H1 Hf1 μ1 s1 so1 r1 => o v H1 Hf1 μ1 s1 so1 (r1.imp fun a b c g => g.gf)⟩
section
variable {X : Cx} {W : WX} {tg e e2 a b : Expr} {f : Ev D} {g : Ev (List D)} {p pos : Pos}
theorem wk_list {K : PySem.W.Frag} {Gd : Hp → Hp → List Addr → Prop} {l : Addr} {xs : List V} {ds : List D} (h : ∀ S' H' Hf' μ', Gd H' Hf' μ' → StoOk K S' H' Hf' μ' → SqL K H' l xs ∧ RepL K μ' Hf' ds xs) (hl : xs.length = ds.length) : WkI K (Itl K l) Gd ds where
  goes := fun i S' H' Hf' μ' hi g so => ⟨xs, xs[i]'(by omega), (h S' H' Hf' μ' g so).1, by simp⟩
  yields := fun i S' H' Hf' μ' x H2 hi g so y => by
    obtain ⟨rfl, y⟩ := y
    obtain ⟨h1, h2⟩ := h S' _ Hf' μ' g so
    obtain ⟨d, e, r⟩ := h2.getV (y xs h1)
    exact ⟨d, Hf', e, Step.refl _ _ _, so, r⟩
  stops := fun S' H' Hf' μ' g so => ⟨xs, (h S' H' Hf' μ' g so).1, by omega⟩
theorem wk_tup {K : PySem.W.Frag} {Gd : Hp → Hp → List Addr → Prop} {l : Addr} {xs : List V} {ds : List D} (h : ∀ S' H' Hf' μ', Gd H' Hf' μ' → StoOk K S' H' Hf' μ' → SqT K H' l xs ∧ RepL K μ' Hf' ds xs) (hl : xs.length = ds.length) : WkI K (Itt K l) Gd ds where
  goes := fun i S' H' Hf' μ' hi g so => ⟨xs, xs[i]'(by omega), (h S' H' Hf' μ' g so).1, by simp⟩
  yields := fun i S' H' Hf' μ' x H2 hi g so y => by
    obtain ⟨rfl, y⟩ := y
    obtain ⟨h1, h2⟩ := h S' _ Hf' μ' g so
    obtain ⟨d, e, r⟩ := h2.getV (y xs h1)
    exact ⟨d, Hf', e, Step.refl _ _ _, so, r⟩
  stops := fun S' H' Hf' μ' g so => ⟨xs, (h S' H' Hf' μ' g so).1, by omega⟩
/-- a list, a tuple, told -/
def iSeq (f : Ev D) : Ev (List D) := fun Γ S => (f Γ S).bind fun d S' => match d with
  | .lst ds => .ok ds S'
  | .kst ds => .ok ds S'
  | .tup ds => .ok ds S'
  | _ => .no
theorem di_seq (h : DE X W e f) : DI X W tg e (iSeq f) :=
  PI_imp (PI_or (pi_list h) (pi_tup h)) fun σ H R ⟨Γ, S, Hf, μ, sl, so, o⟩ => by
    cases e1 : f Γ S with
    | no => simp only [iSeq, e1] at o; exact o.elim
    | ex C fs S1 =>
      simp only [iSeq, e1] at o
      exact .inl ⟨Γ, S, Hf, μ, sl, so, by rw [e1]; exact o⟩
    | ok d S1 =>
      simp only [iSeq, e1, RE.bind_ok] at o
      cases d with
      | lst ds =>
        refine .inl ⟨Γ, S, Hf, μ, sl, so, by
          rw [e1]
          intro v H1 Hf1 μ1 s1 so1 r1
          simp only [Rep] at r1
          obtain ⟨a, xs, rfl, q, z, rl⟩ := r1
          exact ⟨a, rfl, ⟨xs, SqL.of (so1.sub _ _ q)⟩, o _ H1 Hf1 μ1 s1 so1 (wk_list (fun S' H' Hf' μ' g so' => ⟨SqL.of (so'.sub _ _ (g.1 _ _ q)), RepL.mono g.1 g.2 _ _ rl⟩) rl.length)⟩⟩
      | kst ds =>
        refine .inl ⟨Γ, S, Hf, μ, sl, so, by
          rw [e1]
          intro v H1 Hf1 μ1 s1 so1 r1
          simp only [Rep] at r1
          obtain ⟨a, xs, rfl, q, z, rl⟩ := r1
          exact ⟨a, rfl, ⟨xs, so1.sub.sl q⟩, o _ H1 Hf1 μ1 s1 so1 (wk_list (fun S' H' Hf' μ' g so' => ⟨so'.sub.sl (g.1.sl q), RepL.mono g.1 g.2 _ _ rl⟩) rl.length)⟩⟩
      | tup ds =>
        refine .inr ⟨Γ, S, Hf, μ, sl, so, by
          rw [e1]
          intro v H1 Hf1 μ1 s1 so1 r1
          simp only [Rep] at r1
          obtain ⟨a, xs, rfl, q, z, rl⟩ := r1
          exact ⟨a, rfl, ⟨xs, so1.sub.tp q⟩, o _ H1 Hf1 μ1 s1 so1 (wk_tup (fun S' H' Hf' μ' g so' => ⟨so'.sub.tp (g.1 _ _ q), RepL.mono g.1 g.2 _ _ rl⟩) rl.length)⟩⟩
      | _ => exact o.elim
/-- a text, sign by sign -/
def iStr (f : Ev D) : Ev (List D) := fun Γ S => (f Γ S).bind fun d S' => match d with
  | .str z => .ok (z.cps.toList.map fun c => .str ⟨#[c]⟩) S'
  | _ => .no
theorem di_str (h : DE X W e f) : DI X W tg e (DL.iStr f) :=
  PI_imp (pi_str h) fun σ H R ⟨Γ, S, Hf, μ, sl, so, o⟩ => ⟨Γ, S, Hf, μ, sl, so, Out.bind sl rm_itF o fun d S1 v H1 Hf1 μ1 _ s1 sl1 so1 r1 o1 => by
    cases d with
    | str z =>
      obtain rfl : v = .str z := by simpa only [Rep] using r1
      have hz : (z.cps.toList.map fun c => D.str ⟨#[c]⟩).length = z.cps.size := by simp
      refine ⟨z, rfl, o1 _ H1 Hf1 μ1 (Step.refl _ _ _) so1 ⟨fun i S' H' Hf' μ' hi g so' => by rw [hz] at hi; exact hi, fun i S' H' Hf' μ' x H2 hi g so' y => ?_, fun S' H' Hf' μ' g so' => Nat.le_of_eq hz.symm⟩⟩
      obtain ⟨rfl, c, e, rfl⟩ := y
      exact ⟨.str ⟨#[c]⟩, Hf', by simp [e], Step.refl _ _ _, so', by simp only [Rep]⟩
    | _ => exact o1.elim⟩
/-- range(n), range(m, n) -/
def rngD (lo : Int) (n : Nat) : List D := (List.range n).map fun i => .int (lo + (i : Nat))
theorem wk_range {K : PySem.W.Frag} {Gd : Hp → Hp → List Addr → Prop} {lo : Int} {n : Nat} : WkI K (Itr lo n) Gd (rngD lo n) where
  goes := fun i S' H' Hf' μ' hi g so => by
    have hi' : i < n := by simpa [rngD] using hi
    exact hi'
  yields := fun i S' H' Hf' μ' x H2 hi g so y => by
    obtain ⟨rfl, rfl⟩ := y
    have hi' : i < n := by simpa [rngD] using hi
    exact ⟨.int (lo + (i : Nat)), Hf', by simp [rngD, hi'], Step.refl _ _ _, so, by simp only [Rep]⟩
  stops := fun S' H' Hf' μ' g so => by
    show n ≤ (rngD lo n).length
    simp [rngD]
def rangeD : List D → Option (List D)
  | [.int n] => if -(2 ^ 62) ≤ n ∧ n < 2 ^ 62 then some (rngD 0 n.toNat) else none
  | [.int m, .int n] => if (-(2 ^ 62) ≤ m ∧ m < 2 ^ 62) ∧ (-(2 ^ 62) ≤ n ∧ n < 2 ^ 62) then some (rngD m (n - m).toNat) else none
  | _ => none
theorem rangeD_cases {ds zs : List D} (h : rangeD ds = some zs) : (∃ n, ds = [.int n] ∧ (-(2 ^ 62) ≤ n ∧ n < 2 ^ 62) ∧ zs = rngD 0 n.toNat) ∨
    ∃ m n, ds = [.int m, .int n] ∧ ((-(2 ^ 62) ≤ m ∧ m < 2 ^ 62) ∧ (-(2 ^ 62) ≤ n ∧ n < 2 ^ 62)) ∧ zs = rngD m (n - m).toNat := by
  unfold rangeD at h
  split at h
  · rename_i n
    split at h
    · rename_i hn
      exact .inl ⟨n, rfl, hn, (Option.some.inj h).symm⟩
    · cases h
  · rename_i m n
    split at h
    · rename_i hn
      exact .inr ⟨m, n, rfl, hn, (Option.some.inj h).symm⟩
    · cases h
  · cases h
/-- a list of values, made into another by f -/
def iVia (f : List D → Option (List D)) (g : Ev (List D)) : Ev (List D) := fun Γ S => (g Γ S).bind fun ds S' => match f ds with
  | some zs => .ok zs S'
  | none => .no
abbrev iRange (g : Ev (List D)) : Ev (List D) := iVia rangeD g
theorem RepL.one {K : PySem.W.Frag} {μ : List Addr} {Hf : Hp} {d : D} {vs : List V} (r : RepL K μ Hf [d] vs) : ∃ v, vs = [v] ∧ Rep K μ Hf d v := by
  simp only [RepL] at r
  obtain ⟨x, xs, rfl, q, rfl⟩ := r
  exact ⟨x, rfl, q⟩
theorem RepL.two {K : PySem.W.Frag} {μ : List Addr} {Hf : Hp} {d d' : D} {vs : List V} (r : RepL K μ Hf [d, d'] vs) : ∃ v v', vs = [v, v'] ∧ Rep K μ Hf d v ∧ Rep K μ Hf d' v' := by
  simp only [RepL] at r
  obtain ⟨x, xs, rfl, q, y, ys, rfl, q', rfl⟩ := r
  exact ⟨x, y, rfl, q, q'⟩
theorem di_range1 (ha : DA X W [a] g) (hl : ALen g 1) (hg : Gl X "range") (hm : X.mg "range" = none) (hs : starEach [a] X.env = [(false, eval a X.env)] := by rfl) : DI X W tg (.Call (.Name "range" p) [a] [] pos) (iRange g) :=
  PI_imp (pi_range1 hg hm ha hs) fun σ H R ⟨Γ, S, Hf, μ, sl, so, o⟩ => ⟨Γ, S, Hf, μ, sl, so, Out.bind sl rm_itF o fun ds S1 vs H1 Hf1 μ1 e s1 sl1 so1 r1 o1 => by
    have l1 := hl _ _ _ _ e
    cases e2 : rangeD ds with
    | none => rw [e2] at o1; exact o1.elim
    | some zs =>
      rw [e2] at o1
      rcases rangeD_cases e2 with ⟨n, rfl, hn, rfl⟩ | ⟨m, n, rfl, _⟩
      · obtain ⟨v, rfl, q⟩ := r1.one
        obtain rfl : v = .int n := by simpa only [Rep] using q
        exact ⟨n, rfl, hn.1, hn.2, o1 _ H1 Hf1 μ1 (Step.refl _ _ _) so1 wk_range⟩
      · simp at l1⟩
theorem di_range2 (ha : DA X W [a, b] g) (hl : ALen g 2) (hg : Gl X "range") (hm : X.mg "range" = none) (hs : starEach [a, b] X.env = [(false, eval a X.env), (false, eval b X.env)] := by rfl) (hs2 : starEach [b] X.env = [(false, eval b X.env)] := by rfl) :
    DI X W tg (.Call (.Name "range" p) [a, b] [] pos) (iRange g) :=
  PI_imp (pi_range2 hg hm ha hs hs2) fun σ H R ⟨Γ, S, Hf, μ, sl, so, o⟩ => ⟨Γ, S, Hf, μ, sl, so, Out.bind sl rm_itF o fun ds S1 vs H1 Hf1 μ1 e s1 sl1 so1 r1 o1 => by
    have l1 := hl _ _ _ _ e
    cases e2 : rangeD ds with
    | none => rw [e2] at o1; exact o1.elim
    | some zs =>
      rw [e2] at o1
      rcases rangeD_cases e2 with ⟨n, rfl, _⟩ | ⟨m, n, rfl, hn, rfl⟩
      · simp at l1
      · obtain ⟨v, v', rfl, q, q'⟩ := r1.two
        obtain rfl : v = .int m := by simpa only [Rep] using q
        obtain rfl : v' = .int n := by simpa only [Rep] using q'
        exact ⟨m, n, rfl, ⟨hn.1.1, hn.1.2, hn.2.1, hn.2.2⟩, o1 _ H1 Hf1 μ1 (Step.refl _ _ _) so1 wk_range⟩⟩
/-- a new pair, frozen -/
theorem pair_new {K : PySem.W.Frag} {S' : Store} {H' Hf' : Hp} {μ' : List Addr} {T : Addr} {x y : V} {dx dy : D} (so : StoOk K S' H' Hf' μ') (hT : H' T = none) (rx : Rep K μ' Hf' dx x) (ry : Rep K μ' Hf' dy y) :
    ∃ Hf2, Step H' Hf' μ' (upd H' T (.tup [x, y])) Hf2 μ' ∧ StoOk K S' (upd H' T (.tup [x, y])) Hf2 μ' ∧ Rep K μ' Hf2 (.tup [dx, dy]) (.ref T) := by
  obtain ⟨st, so2⟩ := Step.lay (u := .tup [x, y]) so hT
  refine ⟨_, st, so2, ?_⟩
  simp only [Rep]
  exact ⟨T, [x, y], rfl, upd_same, by show 2 ≤ sizeLine; decide, RepL.cons (st.rep rx) (RepL.cons (st.rep ry) RepL.nil)⟩
def zips (xs ys : List D) : List D := List.zipWith (fun x y => .tup [x, y]) xs ys
def seqOf : D → Option (List D)
  | .lst ds => some ds
  | .kst ds => some ds
  | .tup ds => some ds
  | _ => none
/-- zip of two lists or two tuples -/
def zipD : List D → Option (List D)
  | [.lst xs, .lst ys] => some (zips xs ys)
  | [.tup xs, .tup ys] => some (zips xs ys)
  | _ => none
theorem zipD_cases {ds zs : List D} (h : zipD ds = some zs) : (∃ xs ys, ds = [.lst xs, .lst ys] ∧ zs = zips xs ys) ∨ ∃ xs ys, ds = [.tup xs, .tup ys] ∧ zs = zips xs ys := by
  unfold zipD at h
  split at h
  · rename_i xs ys
    exact .inl ⟨xs, ys, rfl, (Option.some.inj h).symm⟩
  · rename_i xs ys
    exact .inr ⟨xs, ys, rfl, (Option.some.inj h).symm⟩
  · cases h
theorem zips_get {xs ys : List D} {i : Nat} {x y : D} (h1 : xs[i]? = some x) (h2 : ys[i]? = some y) : (zips xs ys)[i]? = some (.tup [x, y]) := by
  unfold zips
  rw [List.getElem?_zipWith, h1, h2]
theorem zips_length (xs ys : List D) : (zips xs ys).length = min xs.length ys.length := by
  unfold zips
  rw [List.length_zipWith]
theorem wk_zip {K : PySem.W.Frag} {Gd : Hp → Hp → List Addr → Prop} {a b : Addr} {xs ys : List V} {ds es : List D} {J : It}
    (hJ : ∀ H, (SqL K H a xs ∧ SqL K H b ys ∧ J = Itz K a b) ∨ (SqT K H a xs ∧ SqT K H b ys ∧ J = RZ.ItzT K a b) → (∀ i, i < xs.length → i < ys.length → J.go i H) ∧
      (∀ i v H', J.yld i H v H' → ∃ T x y, v = .ref T ∧ H T = none ∧ H' = upd H T (.tup [x, y]) ∧ xs[i]? = some x ∧ ys[i]? = some y) ∧ (∀ i, (xs.length ≤ i ∨ ys.length ≤ i) → J.stop i H))
    (h : ∀ S' H' Hf' μ', Gd H' Hf' μ' → StoOk K S' H' Hf' μ' → ((SqL K H' a xs ∧ SqL K H' b ys ∧ J = Itz K a b) ∨ (SqT K H' a xs ∧ SqT K H' b ys ∧ J = RZ.ItzT K a b)) ∧ RepL K μ' Hf' ds xs ∧ RepL K μ' Hf' es ys)
    (hl : xs.length = ds.length) (hl2 : ys.length = es.length) : WkI K J Gd (zips ds es) where
  goes := fun i S' H' Hf' μ' hi g so => by
    rw [zips_length] at hi
    exact (hJ H' (h S' H' Hf' μ' g so).1).1 i (by omega) (by omega)
  yields := fun i S' H' Hf' μ' v H2 hi g so y => by
    obtain ⟨h1, r1, r2⟩ := h S' H' Hf' μ' g so
    obtain ⟨T, x, z, rfl, hT, rfl, ex, ez⟩ := (hJ H' h1).2.1 i v H2 y
    obtain ⟨dx, e1, q1⟩ := r1.getV ex
    obtain ⟨dz, e2, q2⟩ := r2.getV ez
    obtain ⟨Hf2, st, so2, rp⟩ := pair_new so hT q1 q2
    exact ⟨_, Hf2, zips_get e1 e2, st, so2, rp⟩
  stops := fun S' H' Hf' μ' g so => by
    rw [zips_length]
    exact (hJ H' (h S' H' Hf' μ' g so).1).2.2 _ (by omega)
theorem itz_ok {K : PySem.W.Frag} {a b : Addr} {xs ys : List V} {J : It} (H : Hp) (h : (SqL K H a xs ∧ SqL K H b ys ∧ J = Itz K a b) ∨ (SqT K H a xs ∧ SqT K H b ys ∧ J = RZ.ItzT K a b)) : (∀ i, i < xs.length → i < ys.length → J.go i H) ∧
      (∀ i v H', J.yld i H v H' → ∃ T x y, v = .ref T ∧ H T = none ∧ H' = upd H T (.tup [x, y]) ∧ xs[i]? = some x ∧ ys[i]? = some y) ∧ (∀ i, (xs.length ≤ i ∨ ys.length ≤ i) → J.stop i H) := by
  rcases h with ⟨h1, h2, rfl⟩ | ⟨h1, h2, rfl⟩
  · exact ⟨fun i k1 k2 => ⟨xs, ys, xs[i], ys[i], h1, h2, by simp, by simp⟩, fun i v H' ⟨T, x, y, e, n, u, e1, e2⟩ => ⟨T, x, y, e, n, u, e1 xs h1, e2 ys h2⟩, fun i k => ⟨xs, ys, h1, h2, k⟩⟩
  · exact ⟨fun i k1 k2 => ⟨xs, ys, xs[i], ys[i], h1, h2, by simp, by simp⟩, fun i v H' ⟨T, x, y, e, n, u, e1, e2⟩ => ⟨T, x, y, e, n, u, e1 xs h1, e2 ys h2⟩, fun i k => ⟨xs, ys, h1, h2, k⟩⟩
theorem di_zip {elts : List Expr} {kk : Nat} {tpos : Pos} (ha : DA X W [e, e2] g) (hg : Gl X "zip") (hm : X.mg "zip" = none)
    (hs : starEach [e, e2] X.env = (false, eval e X.env) :: starEach [e2] X.env := by rfl) (hpl : (backTo pos (starEach [e2] X.env)).any (·.1) = false := by rfl) : DI X W (.Tuple elts kk tpos) (.Call (.Name "zip" p) [e, e2] [] pos) (iVia zipD g) :=
  PI_imp (RZ.pi_zipA hg hm ha hs hpl) fun σ H R ⟨Γ, S, Hf, μ, sl, so, o⟩ => ⟨Γ, S, Hf, μ, sl, so, Out.bind sl rm_itF o fun ds S1 vs H1 Hf1 μ1 _ s1 sl1 so1 r1 o1 => by
    cases e2 : zipD ds with
    | none => rw [e2] at o1; exact o1.elim
    | some zs =>
      rw [e2] at o1
      rcases zipD_cases e2 with ⟨xs, ys, rfl, rfl⟩ | ⟨xs, ys, rfl, rfl⟩
      · obtain ⟨v, v', rfl, q, q'⟩ := r1.two
        simp only [Rep] at q q'
        obtain ⟨a, us, rfl, qa, z, rl⟩ := q
        obtain ⟨b, ws, rfl, qb, z', rl'⟩ := q'
        exact ⟨a, b, us, ws, rfl, .inl ⟨SqL.of (so1.sub _ _ qa), SqL.of (so1.sub _ _ qb), o1 _ H1 Hf1 μ1 (Step.refl _ _ _) so1 (wk_zip (fun H h => itz_ok H h) (fun S' H' Hf' μ' g so' => ⟨.inl ⟨SqL.of (so'.sub _ _ (g.1 _ _ qa)), SqL.of (so'.sub _ _ (g.1 _ _ qb)), rfl⟩, RepL.mono g.1 g.2 _ _ rl, RepL.mono g.1 g.2 _ _ rl'⟩) rl.length rl'.length)⟩⟩
      · obtain ⟨v, v', rfl, q, q'⟩ := r1.two
        simp only [Rep] at q q'
        obtain ⟨a, us, rfl, qa, z, rl⟩ := q
        obtain ⟨b, ws, rfl, qb, z', rl'⟩ := q'
        exact ⟨a, b, us, ws, rfl, .inr ⟨so1.sub.tp qa, so1.sub.tp qb, o1 _ H1 Hf1 μ1 (Step.refl _ _ _) so1 (wk_zip (fun H h => itz_ok H h) (fun S' H' Hf' μ' g so' => ⟨.inr ⟨so'.sub.tp (g.1 _ _ qa), so'.sub.tp (g.1 _ _ qb), rfl⟩, RepL.mono g.1 g.2 _ _ rl, RepL.mono g.1 g.2 _ _ rl'⟩) rl.length rl'.length)⟩⟩⟩
end
/-! ### enumerate of a tuple -/
def ItE (K : PySem.W.Frag) (a : Addr) : It :=
  ⟨fun i H => ∃ (xs : List V) (x : V), SqT K H a xs ∧ xs[i]? = some x, fun i H v H' => ∃ T x, v = .ref T ∧ H T = none ∧ H' = upd H T (.tup [.int (i : Nat), x]) ∧ ∀ xs, SqT K H a xs → xs[i]? = some x, fun i H => ∃ xs : List V, SqT K H a xs ∧ xs.length = i⟩
theorem turn_enumT {P : Program} {w : World} {K : PySem.W.Frag} {elts : List Expr} {kk : Nat} {tpos : Pos} (a e it : Addr) :
    Turn P w K (.Tuple elts kk tpos) (ItE K a) [e, it] e (fun i h => (∃ old, IsEnum h e it ((i : Nat) : Int) old) ∧ h.IsTupleIter it a i ∧ e ≠ it) where
  mem := by simp
  obj := fun i h st b hb => by
    obtain ⟨⟨old, he⟩, ⟨o, ho, hc, hd⟩, _⟩ := st
    rcases (by simpa using hb : b = e ∨ b = it) with rfl | rfl
    · exact ⟨_, he, fun v q => nomatch q⟩
    · exact ⟨o, ho, fun v q => by rw [hd] at q; cases q⟩
  keep := fun i h h' st k => ⟨st.1.elim fun old he => ⟨old, k e (by simp) _ he⟩, st.2.1.at fun o q => k it (by simp) o q, st.2.2⟩
  item := by
    intro X hP hw hK hc i pins s σ H E I hf st hg
    subst hP hw hK
    obtain ⟨⟨old, he⟩, hit, hne⟩ := st
    obtain ⟨xs, x, hq, hx⟩ := hg
    obtain ⟨its, rv, p, hz⟩ := I.tuple hq
    have pt : s.heap.IsTuple a its.toArray := p
    obtain ⟨u, hu, ru⟩ := rv.get hx
    have lte : e < s.heap.objs.size := Heap.lt_size he
    have lti : it < s.heap.objs.size := by obtain ⟨_, q, _⟩ := hit; exact Heap.lt_size q
    have ait : a ≠ it := fun z => by
      subst z
      obtain ⟨o1, q1, c1, _⟩ := hit
      obtain ⟨o2, q2, c2, _⟩ := pt
      rw [q1] at q2; cases q2
      rw [c1] at c2
      have c3 : Value.type "tuple_iterator" = Value.type "tuple" := c2
      exact absurd c3 (by decide +kernel)
    have eni : e ≠ a := fun z => by
      subst z
      obtain ⟨o2, q2, c2, _⟩ := pt
      have he' := he
      unfold IsEnum at he'
      rw [he'] at q2; cases q2
      have c3 : Value.type "enumerate" = Value.type "tuple" := c2
      exact absurd c3 (by decide +kernel)
    have DR := Draws.tuple (prog := X.prog) (w := X.w) (A := X.A.in1) (I.ok.hd hc) it a ait its.toArray
    have hi : i < its.toArray.size := by
      rw [List.size_toArray]
      exact (List.getElem?_eq_some_iff.mp hu).1
    refine wpAny_pyNext_enum_itemC (Q := fun r s1 => ∃ u, r = some u ∧ _) DR he ⟨hit, pt⟩ hi hne (by simp [hne, eni]) fun v h' tk hv ho st' hT hsz hk => ?_
    obtain rfl : v = u := by
      have z : its.toArray[i]? = some v := hv
      rw [List.getElem?_toArray, hu] at z
      exact (Option.some.inj z).symm
    refine ⟨_, rfl, wpAny_letOwnedTupleGo_enum (s := { s with heap := h', toks := tk + 1 }) ho fun h2 he2 sb => ?_⟩
    have ne : s.heap.objs.size ≠ e := Nat.ne_of_gt lte
    have hT2 : h2.get? s.heap.objs.size = some { cls := .type "tuple", data := .seq #[.int i tk, v] } := (sb.2 _ ne).trans hT
    have fresh : ObjOk X.prog X.w (upd H s.heap.objs.size (.tup [.int (i : Nat), x])) h2 s.heap.objs.size (.tup [.int (i : Nat), x]) :=
      ⟨by show 2 ≤ sizeLine; decide, [.int i tk, v], .cons ⟨_, rfl⟩ (.cons ru .nil), ⟨_, hT2, rfl, _, rfl⟩⟩
    have J : Inv X pins σ (upd H s.heap.objs.size (.tup [.int (i : Nat), x])) { s with heap := h2, toks := tk + 1 } :=
      I.turnedNew (ch := [e, it]) (fun b ob hb q => (sb.2 b (fun z => hb (by simp [z]))).trans (hk b ob (fun z => hb (by simp [z])) (fun z => hb (by simp [z])) q)) hf (Nat.le_refl _) fresh
    refine ⟨.ref s.heap.objs.size, _, J, rfl, ⟨_, x, rfl, I.hok.fresh (Nat.le_refl _), rfl, fun ys hy => ?_⟩, ⟨⟨v, ?_⟩, st'.1.at fun o q => (sb.2 it (Ne.symm hne)).trans q, hne⟩, fun b hb => ?_⟩
    · rw [I.tuple_inj hy hq]; exact hx
    · rw [show ((i + 1 : Nat) : Int) = (i : Int) + 1 by omega]; exact he2
    · have lb : b < s.heap.objs.size := by
        rcases (by simpa using hb : b = e ∨ b = it) with rfl | rfl
        · exact lte
        · exact lti
      rw [upd_ne (Nat.ne_of_lt lb)]
      exact (hf b hb).1
  done := by
    intro X hP hw hK hc i pins s σ H E I hf st hg
    subst hP hw hK
    obtain ⟨⟨old, he⟩, hit, hne⟩ := st
    obtain ⟨xs, hq, hx⟩ := hg
    obtain ⟨its, rv, p, hz⟩ := I.tuple hq
    have pt : s.heap.IsTuple a its.toArray := p
    have ait : a ≠ it := fun z => by
      subst z
      obtain ⟨o1, q1, c1, _⟩ := hit
      obtain ⟨o2, q2, c2, _⟩ := pt
      rw [q1] at q2; cases q2
      rw [c1] at c2
      have c3 : Value.type "tuple_iterator" = Value.type "tuple" := c2
      exact absurd c3 (by decide +kernel)
    have DR := Draws.tuple (prog := X.prog) (w := X.w) (A := X.A.in1) (I.ok.hd hc) it a ait its.toArray
    obtain ⟨f0, f1, f2, f3, f4, f5⟩ := hf it (by simp)
    have hn : its.toArray.size = i := by rw [List.size_toArray, ← hx]; exact rv.length.symm
    exact wpAny_pyNext_enum_endD DR he (by rw [hn]; exact ⟨hit, pt⟩) fun h' eb => ⟨rfl, I.turned (t' := s.toks) (fun b o hb q => eb b o hb q) f0 f1 f3 f4 f5⟩
  self := fun A i s Q E st h => st.1.elim fun _ he => wpAny_pyIter_enum he h
set_option maxHeartbeats 1000000 in
theorem enum_one {v : Value} {o : Obj} {H : Heap → Prop} (B : Begins v o H) :
    Meets (Builtin.«enumerate.__new__» ⟨[.type "enumerate", v], []⟩) (fun _ R s => H s.heap ∧
      R (.ok (.ret (.ref (s.heap.push o).objs.size))) { s with heap := (s.heap.push o).push { cls := .type "enumerate", data := .fields #[.none, .bool false, .ref s.heap.objs.size, rawInt 0, .none, .none] } }) :=
  .of_wp fun prog w A R s hh => by
    obtain ⟨hp, g, d, tk, os⟩ := s
    have hsub := sub_enumerate
    have it1 : ∀ {A1 : Around} {E1 : Value → Shared → Prop} {Q1 : Value → Shared → Prop}, Q1 (.ref hp.objs.size) ⟨hp.push o, g, d, tk, os⟩ → wpAny (model prog w) A1 (pyIter v) Q1 E1 ⟨hp, g, d, tk, os⟩ :=
      fun z => B.iter prog w _ _ ⟨hp, g, d, tk, os⟩ _ hh.1 z
    have fin := hh.2
    wp_walk using it1
    refine wpAny_stack_any fun _ => wpAny_pure ?_
    split
    · rename_i c _ _ _ _ _
      cases (c == Value.type "enumerate") <;> (wp_walk using it1; exact ⟨_, rfl, fin⟩)
    · wp_walk using it1
      exact ⟨_, rfl, fin⟩
theorem call_enum_one {prog : Program} {w : World} {A : Around} {E : Value → Shared → Prop} {s : Shared} {v : Value} {o : Obj} {H : Heap → Prop} {Q : Value → Shared → Prop} (B : Begins v o H) (h1 : H s.heap)
    (h : ∀ h', IsEnum h' (s.heap.objs.size + 1) s.heap.objs.size 0 .none → h'.get? s.heap.objs.size = some o → (∀ b u, s.heap.get? b = some u → h'.get? b = some u) → Q (.ref (s.heap.objs.size + 1)) { s with heap := h' }) :
    wpAny (model prog w) A (call (.type "enumerate") [v]) Q E s := by
  refine callType_new F.called_enumerate (by decide) (F.typeCall_enumerate_1 _) (F.newCall_enumerate_1 _) (fun obj => F.args_object_init_2 obj _) F.entry_enumerate_new (enum_one B) ⟨h1, ?_⟩
  have sz : (s.heap.push o).objs.size = s.heap.objs.size + 1 := Heap.size_push ..
  have he : IsEnum ((s.heap.push o).push { cls := .type "enumerate", data := .fields #[.none, .bool false, .ref s.heap.objs.size, rawInt 0, .none, .none] }) (s.heap.objs.size + 1) s.heap.objs.size 0 .none := by
    rw [← sz]
    exact Heap.get?_push_size _ rfl
  refine ⟨⟨_, by rw [sz]; exact he, rfl⟩, ?_⟩
  rw [sz]
  exact h _ he (Heap.get?_push_of_some _ (Heap.get?_push_size _ B.free)) fun b u x => Heap.get?_push_of_some _ (Heap.get?_push_of_some _ x)
def iEnumT (K : PySem.W.Frag) (ta : TA) : TI := fun σ H R => ta σ H fun vs H1 => ∃ a xs, vs = [.ref a] ∧ SqT K H1 a xs ∧ R (ItE K a) H1
theorem pi_enumT {X : Cx} {e : Expr} {ta : TA} {p pos tpos : Pos} {elts : List Expr} {kk : Nat} (hg : Gl X "enumerate") (hm : X.mg "enumerate" = none) (ha : PA X [e] ta) (hs : starEach [e] X.env = [(false, eval e X.env)] := by rfl) :
    PI X (.Tuple elts kk tpos) (.Call (.Name "enumerate" p) [e] [] pos) (iEnumT X.K ta) := by
  refine ⟨fun pins s σ H R I h => Call_ (ld_blt I hg hm boot_enumerate (callWith_type1 (thn (ha.run pos pins s σ H _ I h) fun us s1 ⟨vs, H1, I1, r1, q1⟩ => ?_) hs rfl))⟩
  obtain ⟨a, xs, ex, hq, q⟩ := q1
  subst ex
  obtain ⟨u, rfl, r⟩ := Vals.one r1
  obtain rfl : u = Value.ref a := r
  obtain ⟨its, rv, pt, hz⟩ := I1.tuple hq
  refine call_enum_one (begins_tuple a its.toArray) pt fun h' he hit hk => wpAny_pyIter_enum he ?_
  have J : Inv X pins σ H1 { s1 with heap := h' } := I1.kept (t' := s1.toks) hk
  refine ⟨s1.heap.objs.size + 1, [s1.heap.objs.size + 1, s1.heap.objs.size], _, _, H1, rfl, J, turn_enumT a (s1.heap.objs.size + 1) s1.heap.objs.size, ⟨⟨.none, he⟩, ⟨_, hit, rfl, rfl⟩, Nat.succ_ne_self _⟩, fun b hb => ?_, q⟩
  have lb : s1.heap.objs.size ≤ b := by
    rcases (by simpa using hb : b = s1.heap.objs.size + 1 ∨ b = s1.heap.objs.size) with rfl | rfl
    · exact Nat.le_add_right _ _
    · exact Nat.le_refl _
  exact I1.fpOk lb (I1.hok.fresh lb)
/-- pairs of places and items -/
def enumD (ds : List D) : List D := ds.mapIdx fun i d => .tup [.int (i : Nat), d]
def enumOf : List D → Option (List D)
  | [.lst ds] => some (enumD ds)
  | [.tup ds] => some (enumD ds)
  | _ => none
theorem enumOf_cases {ds zs : List D} (h : enumOf ds = some zs) : (∃ xs, ds = [.lst xs] ∧ zs = enumD xs) ∨ ∃ xs, ds = [.tup xs] ∧ zs = enumD xs := by
  unfold enumOf at h
  split at h
  · rename_i xs
    exact .inl ⟨xs, rfl, (Option.some.inj h).symm⟩
  · rename_i xs
    exact .inr ⟨xs, rfl, (Option.some.inj h).symm⟩
  · cases h
section
variable {X : Cx} {W : WX} {tg e : Expr} {f : Ev D} {g : Ev (List D)} {p pos : Pos}
theorem wk_enum {K : PySem.W.Frag} {Gd : Hp → Hp → List Addr → Prop} {a : Addr} {xs : List V} {ds : List D} {J : It}
    (hJ : ∀ H, (SqL K H a xs ∧ J = Ite K a) ∨ (SqT K H a xs ∧ J = ItE K a) → (∀ i, i < xs.length → J.go i H) ∧ (∀ i v H', J.yld i H v H' → ∃ T x, v = .ref T ∧ H T = none ∧ H' = upd H T (.tup [.int (i : Nat), x]) ∧ xs[i]? = some x) ∧ J.stop xs.length H)
    (h : ∀ S' H' Hf' μ', Gd H' Hf' μ' → StoOk K S' H' Hf' μ' → ((SqL K H' a xs ∧ J = Ite K a) ∨ (SqT K H' a xs ∧ J = ItE K a)) ∧ RepL K μ' Hf' ds xs) (hl : xs.length = ds.length) : WkI K J Gd (enumD ds) where
  goes := fun i S' H' Hf' μ' hi g so => (hJ H' (h S' H' Hf' μ' g so).1).1 i (by rw [hl]; simpa [enumD] using hi)
  yields := fun i S' H' Hf' μ' v H2 hi g so y => by
    obtain ⟨h1, r1⟩ := h S' H' Hf' μ' g so
    obtain ⟨T, x, rfl, hT, rfl, ex⟩ := (hJ H' h1).2.1 i v H2 y
    obtain ⟨dx, e1, q1⟩ := r1.getV ex
    obtain ⟨Hf2, st, so2, rp⟩ := pair_new (dx := .int (i : Nat)) (x := .int (i : Nat)) so hT (by simp only [Rep]) q1
    exact ⟨_, Hf2, by simp [enumD, e1], st, so2, rp⟩
  stops := fun S' H' Hf' μ' g so => by
    have z := (hJ H' (h S' H' Hf' μ' g so).1).2.2
    rw [hl] at z
    simpa [enumD] using z
theorem ite_ok {K : PySem.W.Frag} {a : Addr} {xs : List V} {J : It} (H : Hp) (h : (SqL K H a xs ∧ J = Ite K a) ∨ (SqT K H a xs ∧ J = ItE K a)) : (∀ i, i < xs.length → J.go i H) ∧
    (∀ i v H', J.yld i H v H' → ∃ T x, v = .ref T ∧ H T = none ∧ H' = upd H T (.tup [.int (i : Nat), x]) ∧ xs[i]? = some x) ∧ J.stop xs.length H := by
  rcases h with ⟨h1, rfl⟩ | ⟨h1, rfl⟩
  · exact ⟨fun i k1 => ⟨xs, xs[i], h1, by simp⟩, fun i v H' ⟨T, x, e, n, u, e1⟩ => ⟨T, x, e, n, u, e1 xs h1⟩, ⟨xs, h1, Nat.le_refl _⟩⟩
  · exact ⟨fun i k1 => ⟨xs, xs[i], h1, by simp⟩, fun i v H' ⟨T, x, e, n, u, e1⟩ => ⟨T, x, e, n, u, e1 xs h1⟩, ⟨xs, h1, rfl⟩⟩
theorem di_enum {elts : List Expr} {kk : Nat} {tpos : Pos} (ha : DA X W [e] g) (hg : Gl X "enumerate") (hm : X.mg "enumerate" = none)
    (hs : starEach [e] X.env = [(false, eval e X.env)] := by rfl) : DI X W (.Tuple elts kk tpos) (.Call (.Name "enumerate" p) [e] [] pos) (iVia enumOf g) :=
  PI_imp (PI_or (pi_enum hg hm ha hs) (pi_enumT hg hm ha hs)) fun σ H R ⟨Γ, S, Hf, μ, sl, so, o⟩ => by
    cases e1 : g Γ S with
    | no => simp only [iVia, e1] at o; exact o.elim
    | ex C fs S1 =>
      simp only [iVia, e1] at o
      exact .inl ⟨Γ, S, Hf, μ, sl, so, by rw [e1]; exact o⟩
    | ok ds S1 =>
      simp only [iVia, e1, RE.bind_ok] at o
      cases e2 : enumOf ds with
      | none => rw [e2] at o; exact o.elim
      | some zs =>
        rw [e2] at o
        rcases enumOf_cases e2 with ⟨xs, rfl, rfl⟩ | ⟨xs, rfl, rfl⟩
        · refine .inl ⟨Γ, S, Hf, μ, sl, so, by
            rw [e1]
            intro vs H1 Hf1 μ1 s1 so1 r1
            obtain ⟨v, rfl, q⟩ := RepL.one r1
            simp only [Rep] at q
            obtain ⟨a, us, rfl, qa, z, rl⟩ := q
            exact ⟨a, us, rfl, SqL.of (so1.sub _ _ qa), o _ H1 Hf1 μ1 s1 so1 (wk_enum (fun H h => ite_ok H h) (fun S' H' Hf' μ' g so' => ⟨.inl ⟨SqL.of (so'.sub _ _ (g.1 _ _ qa)), rfl⟩, RepL.mono g.1 g.2 _ _ rl⟩) rl.length)⟩⟩
        · refine .inr ⟨Γ, S, Hf, μ, sl, so, by
            rw [e1]
            intro vs H1 Hf1 μ1 s1 so1 r1
            obtain ⟨v, rfl, q⟩ := RepL.one r1
            simp only [Rep] at q
            obtain ⟨a, us, rfl, qa, z, rl⟩ := q
            exact ⟨a, us, rfl, so1.sub.tp qa, o _ H1 Hf1 μ1 s1 so1 (wk_enum (fun H h => ite_ok H h) (fun S' H' Hf' μ' g so' => ⟨.inr ⟨so'.sub.tp (g.1 _ _ qa), rfl⟩, RepL.mono g.1 g.2 _ _ rl⟩) rl.length)⟩⟩
/-- a list that may be a slot's own, walked while it stands -/
def iSeqB (f : Ev D) : Ev (List D) := fun Γ S => (f Γ S).bind fun d S' => match d with
  | .lst ds => .ok ds S'
  | _ => .no
theorem dj_own (h : DB X W e f) : DJ X W tg e (iSeqB f) :=
  PI_imp (pi_list h) fun σ H R ⟨Γ, S, Hf, μ, sl, so, o⟩ => ⟨Γ, S, Hf, μ, sl, so, Out.bind sl rm_itS o fun d S1 v H1 Hf1 μ1 _ s1 sl1 so1 r1 o1 => by
    cases d with
    | lst ds =>
      rcases r1 with r1 | ⟨i, es, e1, e2, e3⟩
      · simp only [Rep] at r1
        obtain ⟨a, xs, rfl, q, z, rl⟩ := r1
        exact ⟨a, rfl, ⟨xs, SqL.of (so1.sub _ _ q)⟩, o1 _ H1 Hf1 μ1 (Step.refl _ _ _) so1 (wk_list (fun S' H' Hf' μ' g so' => ⟨SqL.of (so'.sub _ _ (g.fz _ _ q)), RepL.mono g.fz g.mu _ _ rl⟩) rl.length)⟩
      · obtain ⟨p, u, e4, hp, ⟨xs, rfl, z, rl⟩, hf, hm⟩ := sl1.own i _ e1
        rw [e2] at e4
        cases e4
        cases e3
        exact ⟨p, rfl, ⟨xs, SqL.of hp⟩, o1 _ H1 Hf1 μ1 (Step.refl _ _ _) so1 (wk_list (fun S' H' Hf' μ' g so' => ⟨SqL.of (g.fr _ _ hp hm), RepL.mono g.fz g.mu _ _ rl⟩) rl.length)⟩
    | _ => exact o1.elim⟩
end

/-! ### for -/
def forL (t : Tgt) (body : Es) : List D → Es
  | [], Γ, S => .nx Γ S
  | d :: ds, Γ, S => match t.run d Γ with
    | none => .no
    | some Γ1 => match body Γ1 S with
      | .nx Γ2 S2 => forL t body ds Γ2 S2
      | .ct Γ2 S2 => forL t body ds Γ2 S2
      | .bk Γ2 S2 => .nx Γ2 S2
      | .rt v S2 => .rt v S2
      | .ex C fs Γ2 S2 => .ex C fs Γ2 S2
      | .no => .no
def sFor (it : Ev (List D)) (t : Tgt) (body : Es) : Es := fun Γ S => bindS Γ (it Γ S) fun ds S1 => forL t body ds Γ S1
section
variable {X : Cx} {B : Base} {W : WX} {tg iter : Expr} {body : List Stmt} {it : Ev (List D)} {t : Tgt} {f : Es} {pos : Pos}
theorem Rl.floor {K : PySem.W.Frag} {B : Base} {fl : Hp} {ml : List Addr} {fl' : Hp} {ml' : List Addr} {Γ : Gm} {S : Store} {σ : L2.St} {H Hf : Hp} {μ : List Addr} (r : Rl K (B.at fl ml) Γ S σ H Hf μ) (h : Sub fl' fl) (k : Pre ml' ml) : Rl K (B.at fl' ml') Γ S σ H Hf μ :=
  ⟨r.sl, r.so, r.st, r.own, h.trans r.fz, k.trans r.pm⟩
theorem ds_for (hp : PassesOwn (model X.prog X.w) X.A X.env X.xe) (hc : X.calm = true) (hi : DI X W tg iter it) (hg : DG X tg t) (hb : DSs X B W body f) (hs : ∀ x, foldedSetIterable iter X.env x = pure x := by intro _; rfl) :
    DS X B W (.For tg iter body [] pos) (sFor it t f) := by
  intro fl ml
  -- the body over every floor
  have hb' : PSs X body (fun E σ H => ∃ fl' ml', tS X.K (B.at fl' ml') W f E σ H) := ⟨fun pins s σ H E I ⟨fl', ml', h⟩ => (hb fl' ml').run pins s σ H E I h⟩
  refine PS_imp (ps_for hp hc hi hg hb' hs) fun E σ H ⟨Γ, S, Hf, μ, r, o⟩ => ⟨Γ, S, Hf, μ, r.sl, r.so, SOut.bind r o fun ds S1 J H1 Hf1 μ1 _ s1 r1 wk o1 => ?_⟩
  -- W: what is left to walk
  refine ⟨fun i m σ' H' => m = ds.length - i ∧ i ≤ ds.length ∧ ∃ Γ' S' Hf' μ', Rl X.K (B.at Hf1 μ1) Γ' S' σ' H' Hf' μ' ∧ SOut X.K (B.at fl ml) W E (forL t f (ds.drop i) Γ' S'), ⟨ds.length, by simp, Nat.zero_le _, Γ, S1, Hf1, μ1, ⟨r1.sl, r1.so, r1.st, r1.own, Sub.refl _, Pre.refl _⟩, by simpa using o1⟩, ?_⟩
  rintro i m σ' H' ⟨rfl, hi', Γ', S', Hf', μ', r', o'⟩
  have g0 : GF Hf1 μ1 H' Hf' μ' := ⟨r'.fz, r'.pm⟩
  have down : ∀ {Γ2 : Gm} {S2 : Store} {σ2 : L2.St} {H2 Hf2 : Hp} {μ2 : List Addr}, Rl X.K (B.at Hf1 μ1) Γ2 S2 σ2 H2 Hf2 μ2 → Rl X.K (B.at fl ml) Γ2 S2 σ2 H2 Hf2 μ2 := fun z => z.floor r1.fz r1.pm
  by_cases hlt : i < ds.length
  · refine .inr ⟨wk.goes i S' H' Hf' μ' hlt g0 r'.so, fun σ2 H2 => (i + 1 ≤ ds.length ∧ ∃ Γ2 S2 Hf2 μ2, Rl X.K (B.at Hf1 μ1) Γ2 S2 σ2 H2 Hf2 μ2 ∧ SOut X.K (B.at fl ml) W E (forL t f (ds.drop (i + 1)) Γ2 S2)), fun σ2 H2 ⟨a, b⟩ => ⟨ds.length - (i + 1), by omega, rfl, a, b⟩, fun x H2 y => ?_⟩
    obtain ⟨d, Hf2, ed, st2, so2, rd⟩ := wk.yields i S' H' Hf' μ' x H2 hlt g0 r'.so y
    have r2 : Rl X.K (B.at Hf1 μ1) Γ' S' σ' H2 Hf2 μ' := r'.step st2 so2
    rw [List.drop_eq_getElem_cons hlt] at o'
    have ed' : ds[i] = d := by
      rw [List.getElem?_eq_getElem hlt] at ed
      exact Option.some.inj ed
    rw [ed'] at o'
    unfold forL at o'
    refine ⟨d, Γ', S', Hf2, μ', r2.sl, so2, rd, ?_⟩
    cases e1 : t.run d Γ' with
    | none => simp only [e1] at o'; exact o'.elim
    | some Γ1 =>
      simp only [e1] at o'
      intro σ3 sl3 ow3 _
      have r3 : Rl X.K (B.at Hf1 μ1) Γ1 S' σ3 H2 Hf2 μ' := ⟨sl3, so2, r2.st, fun j oo p z1 z2 => let ⟨y1, y2⟩ := ow3 j oo p z1 z2; r2.own j oo p y1 y2, r2.fz, r2.pm⟩
      refine ⟨Hf1, μ1, Γ1, S', Hf2, μ', r3, ?_⟩
      cases e2 : f Γ1 S' with
      | nx Γ2 S2 =>
        simp only [e2] at o'
        exact fun σ4 H4 Hf4 μ4 r4 => ⟨by omega, Γ2, S2, Hf4, μ4, r4, o'⟩
      | ct Γ2 S2 =>
        simp only [e2] at o'
        exact fun σ4 H4 Hf4 μ4 r4 => ⟨by omega, Γ2, S2, Hf4, μ4, r4, o'⟩
      | bk Γ2 S2 =>
        simp only [e2] at o'
        exact fun σ4 H4 Hf4 μ4 r4 => o' σ4 H4 Hf4 μ4 (down r4)
      | rt v S2 =>
        simp only [e2] at o'
        exact o'
      | ex C fs Γ2 S2 =>
        simp only [e2] at o'
        exact fun dd fv σ4 H4 Hf4 μ4 r4 => o' dd fv σ4 H4 Hf4 μ4 (down r4)
      | no => simp only [e2] at o'; exact o'.elim
  · have e : i = ds.length := by omega
    subst e
    rw [List.drop_length] at o'
    exact .inl ⟨wk.stops S' H' Hf' μ' g0 r'.so, o' σ' H' Hf' μ' (down r')⟩
end

/-! ### while -/
def whL (c : Ev Bool) (body : Es) : Nat → Es
  | 0, _, _ => .no
  | n + 1, Γ, S => bindS Γ (c Γ S) fun b S1 => if b then (match body Γ S1 with
      | .nx Γ2 S2 => whL c body n Γ2 S2
      | .ct Γ2 S2 => whL c body n Γ2 S2
      | .bk Γ2 S2 => .nx Γ2 S2
      | .rt v S2 => .rt v S2
      | .ex C fs Γ2 S2 => .ex C fs Γ2 S2
      | .no => .no) else .nx Γ S1
/-- with so many turns at most -/
def sWhile (n : Nat) (c : Ev Bool) (body : Es) : Es := whL c body n
section
variable {X : Cx} {B : Base} {W : WX} {c : Expr} {body : List Stmt} {fc : Ev Bool} {f : Es} {pos : Pos}
theorem ds_while (n : Nat) (hp : PassesOwn (model X.prog X.w) X.A X.env X.xe) (hc : DT X W c fc) (hb : DSs X B W body f) : DS X B W (.While c body [] pos) (sWhile n fc f) := by
  intro fl ml
  refine PS_imp (ps_while hp hc (hb fl ml)) fun E σ H ⟨Γ, S, Hf, μ, r, o⟩ => ?_
  refine ⟨fun m σ' H' => ∃ Γ' S' Hf' μ', Rl X.K (B.at fl ml) Γ' S' σ' H' Hf' μ' ∧ SOut X.K (B.at fl ml) W E (whL fc f m Γ' S'), ⟨n, Γ, S, Hf, μ, r, o⟩, ?_⟩
  rintro m σ' H' ⟨Γ', S', Hf', μ', r', o'⟩
  cases m with
  | zero => exact o'.elim
  | succ m =>
    unfold whL at o'
    refine ⟨Γ', S', Hf', μ', r'.sl, r'.so, SOut.bind r' o' fun d S1 v H1 Hf1 μ1 _ s1 r1 re o1 => ?_⟩
    obtain rfl : d = v := re
    cases d with
    | true =>
      rw [if_pos rfl] at o1 ⊢
      refine ⟨fun σ2 H2 => ∃ Γ2 S2 Hf2 μ2, Rl X.K (B.at fl ml) Γ2 S2 σ2 H2 Hf2 μ2 ∧ SOut X.K (B.at fl ml) W E (whL fc f m Γ2 S2), fun σ2 H2 h => ⟨m, Nat.lt_succ_self _, h⟩, Γ', S1, Hf1, μ1, r1, ?_⟩
      cases e2 : f Γ' S1 with
      | nx Γ2 S2 =>
        rw [e2] at o1
        exact fun σ4 H4 Hf4 μ4 r4 => ⟨Γ2, S2, Hf4, μ4, r4, o1⟩
      | ct Γ2 S2 =>
        rw [e2] at o1
        exact fun σ4 H4 Hf4 μ4 r4 => ⟨Γ2, S2, Hf4, μ4, r4, o1⟩
      | bk Γ2 S2 => rw [e2] at o1; exact o1
      | rt v S2 => rw [e2] at o1; exact o1
      | ex C fs Γ2 S2 => rw [e2] at o1; exact o1
      | no => rw [e2] at o1; exact o1.elim
    | false =>
      rw [if_neg Bool.false_ne_true] at o1 ⊢
      exact o1 σ' H1 Hf1 μ1 r1
end
end DL
set_option Elab.async false
set_option linter.all false
set_option maxRecDepth 100000
/-! DLe: list comprehensions. -/
namespace DL
open PySem PySem.Spec PyProof.Rows L2

/-- an object of one's own -/
structure Priv (D : Addr) (u : HO) (H Hf : Hp) (μ : List Addr) : Prop where
  at_ : H D = some u
  fz : Hf D = none
  nm : D ∉ μ
section
variable {K : PySem.W.Frag} {D : Addr} {u u' : HO} {S : Store} {H Hf H' Hf' H0 Hf0 : Hp} {μ μ' μ0 : List Addr}
theorem Priv.step (p : Priv D u H Hf μ) (s : Step H Hf μ H' Hf' μ') : Priv D u H' Hf' μ' :=
  ⟨s.fr _ _ p.at_ p.nm, s.nf _ p.fz (by rw [p.at_]; exact fun z => nomatch z), fun m => (s.nm _ m).elim p.nm fun z => by rw [p.at_] at z; cases z⟩
theorem Priv.upd (p : Priv D u H Hf μ) : Priv D u' (L2.upd H D u') Hf μ := ⟨upd_same, p.fz, p.nm⟩
theorem Priv.sto (p : Priv D u H Hf μ) (so : StoOk K S H Hf μ) : StoOk K S (L2.upd H D u') Hf μ :=
  ⟨fun a o e => by
    have hn : a ≠ D := fun z => by rw [z, p.fz] at e; cases e
    rw [upd_ne hn]; exact so.sub a o e, so.len, so.nd, fun n o a e1 e2 => by
    have hn : a ≠ D := fun z => p.nm (z ▸ List.mem_of_getElem? e2)
    obtain ⟨w, h1, h2⟩ := so.ob n o a e1 e2
    exact ⟨w, by rw [upd_ne hn]; exact h1, h2⟩, so.fz⟩
/-- from a state that knew nothing of it -/
theorem Priv.back (h0 : H0 D = none) (s : Step H0 Hf0 μ0 H Hf μ) : Step H0 Hf0 μ0 (L2.upd H D u') Hf μ :=
  ⟨fun a o e m => by rw [upd_ne (ne_of_none e h0)]; exact s.fr a o e m, s.fz, s.nf, s.mu, s.nm, fun a h => by
    rw [upd_ne (show a ≠ D from fun z => h (z ▸ h0))]; exact s.th a h⟩
end

theorem wipe_wipe {σ : L2.St} {vs : List Nat} : ∀ {ws : List Nat}, (∀ i ∈ ws, i ∈ vs) → L2.wipe (L2.wipe σ ws) vs = L2.wipe σ vs
  | [], _ => rfl
  | w :: ws, h => by
    show L2.wipe ((L2.wipe σ ws).set w none) vs = _
    rw [wipe_set (h w List.mem_cons_self), wipe_wipe fun i hi => h i (List.mem_cons_of_mem _ hi)]
def noEx {α : Type} (r : RE α) : RE α := match r with
  | .ok a S => .ok a S
  | _ => .no
@[simp] theorem noEx_ok {α : Type} (a : α) (S : Store) : noEx (.ok a S) = .ok a S := rfl
@[simp] theorem noEx_no {α : Type} : noEx (.no : RE α) = .no := rfl
@[simp] theorem noEx_ex {α : Type} (C : PySem.Str) (fs : List (PySem.Str × D)) (S : Store) : noEx (.ex C fs S : RE α) = .no := rfl
/-- no test -/
def bYes : Ev Bool := fun _ S => .ok true S
def lcL (t : Tgt) (c : Ev Bool) (f : Ev D) (Γ : Gm) : List D → Store → RE (List D)
  | [], S => .ok [] S
  | d :: ds, S => match t.run d Γ with
    | none => .no
    | some Γ1 => (noEx (c Γ1 S)).bind fun b S1 => if b then (noEx (f Γ1 S1)).bind fun x S2 => (lcL t c f Γ ds S2).bind fun xs S3 => .ok (x :: xs) S3 else lcL t c f Γ ds S1
def wipeG (Γ : Gm) : List Nat → Gm
  | [] => Γ
  | v :: vs => (wipeG Γ vs).set v none
def nLc (it : Ev (List D)) (vs : List Nat) (t : Tgt) (c : Ev Bool) (f : Ev D) : Ev SO := fun Γ S => (it Γ S).bind fun ds S1 => if ds.length ≤ sizeLine then (lcL t c f (wipeG Γ vs) ds S1).bind fun xs S2 => .ok (.lst xs) S2 else .no
theorem SlOk.wipe {K : PySem.W.Frag} {Γ : Gm} {σ : L2.St} {H Hf : Hp} {μ : List Addr} (h : SlOk K Γ σ H Hf μ) : ∀ vs : List Nat, SlOk K (wipeG Γ vs) (L2.wipe σ vs) H Hf μ
  | [] => h
  | v :: vs => (SlOk.wipe h vs).setO v none
abbrev W0 : WX := fun _ _ _ _ => False
abbrev DTs (X : Cx) (W : WX) (es : List Expr) (f : Ev Bool) : Prop := PTs X es (tT X.K W f)
theorem PTs_imp {X : Cx} {es : List Expr} {t t' : TT} (h : PTs X es t) (k : ∀ σ H Q, t' σ H Q → t σ H Q) : PTs X es t' := ⟨fun pins s σ H Q I hq => h.run pins s σ H Q I (k σ H Q hq)⟩
theorem dts_nil {X : Cx} {W : WX} : DTs X W [] bYes := PTs_imp pts_nil fun σ H Q ⟨Γ, S, Hf, μ, sl, so, o⟩ => o true H Hf μ (Step.refl _ _ _) so rfl
theorem dts_one {X : Cx} {W : WX} {c : Expr} {f : Ev Bool} (h : DT X W c f) : DTs X W [c] f := pts_one h
section
variable {X : Cx} {W : WX} {it : Ev (List D)} {t : Tgt} {fc : Ev Bool} {fe : Ev D} {vs : List Nat}
theorem tLc_of {K : PySem.W.Frag} (hix : ∀ i ∈ t.ix, i ∈ vs) {σ : L2.St} {H : Hp} {Q : VK} (q : tN K W (nLc it vs t fc fe) σ H Q) : tLc (tIS K W it) (tG K t) (tT K W0 fc) (tE K W0 fe) vs σ H Q := by
  obtain ⟨Γ, S, Hf, μ, sl, so, o⟩ := q
  refine ⟨Γ, S, Hf, μ, sl, so, Out.bind sl rm_new o fun ds S1 J H1 Hf1 μ1 _ s1 sl1 so1 wk o1 => ?_⟩
  by_cases hz : ds.length ≤ sizeLine
  case neg => rw [if_neg hz] at o1; exact o1.elim
  rw [if_pos hz] at o1
  intro Dl hD
  obtain ⟨stD, soD, hfD, hmD⟩ := Step.layN (u := .lst []) so1 hD
  have slB : SlOk K (wipeG Γ vs) (L2.wipe σ vs) H1 Hf1 μ1 := sl1.wipe vs
  refine ⟨fun i m H' => m = ds.length - i ∧ i ≤ ds.length ∧ ∃ S' Hf' μ' as xs, Step H1 Hf1 μ1 H' Hf' μ' ∧ StoOk K S' H' Hf' μ' ∧ Priv Dl (.lst xs) H' Hf' μ' ∧ RepL K μ' Hf' as xs ∧ xs.length ≤ i ∧
    Out K (NewR K) W σ H1 Hf1 μ1 ((lcL t fc fe (wipeG Γ vs) (ds.drop i) S').bind fun zs S2 => .ok (.lst (as ++ zs)) S2) Q,
    ⟨ds.length, by simp, Nat.zero_le _, S1, Hf1, μ1, [], [], stD, soD, ⟨upd_same, hfD, hmD⟩, RepL.nil, Nat.le_refl _, by simpa using o1⟩, ?_⟩
  rintro i m H' ⟨rfl, hi', S', Hf', μ', as, xs, st, so', pv, ra, hl, o'⟩
  by_cases hlt : i < ds.length
  · refine .inr ⟨wk.goes i S' H' Hf' μ' hlt st so', fun H2 => i + 1 ≤ ds.length ∧ ∃ S2 Hf2 μ2 as2 xs2, Step H1 Hf1 μ1 H2 Hf2 μ2 ∧ StoOk K S2 H2 Hf2 μ2 ∧ Priv Dl (.lst xs2) H2 Hf2 μ2 ∧ RepL K μ2 Hf2 as2 xs2 ∧ xs2.length ≤ i + 1 ∧
      Out K (NewR K) W σ H1 Hf1 μ1 ((lcL t fc fe (wipeG Γ vs) (ds.drop (i + 1)) S2).bind fun zs S3 => .ok (.lst (as2 ++ zs)) S3) Q, fun H2 ⟨a, b⟩ => ⟨ds.length - (i + 1), by omega, rfl, a, b⟩, fun x H2 y => ?_⟩
    obtain ⟨d, Hf2, ed, st2, so2, rd⟩ := wk.yields i S' H' Hf' μ' x H2 hlt st so' y
    rw [List.drop_eq_getElem_cons hlt] at o'
    have ed' : ds[i] = d := by
      rw [List.getElem?_eq_getElem hlt] at ed
      exact Option.some.inj ed
    rw [ed'] at o'
    unfold lcL at o'
    refine ⟨d, wipeG Γ vs, S', Hf2, μ', slB.step (st.trans st2), so2, rd, ?_⟩
    cases e1 : t.run d (wipeG Γ vs) with
    | none => simp only [e1, RE.bind_no] at o'; exact o'.elim
    | some Γ1 =>
      simp only [e1] at o'
      intro σ3 sl3 _ wp3
      refine ⟨(wp3 vs hix).trans (wipe_wipe fun _ h => h), Γ1, S', Hf2, μ', sl3, so2, ?_⟩
      cases e2 : fc Γ1 S' with
      | no => simp only [e2, noEx_no, RE.bind_no] at o'; exact o'.elim
      | ex C fs S3 => simp only [e2, noEx_ex, RE.bind_no] at o'; exact o'.elim
      | ok b S3 =>
        simp only [e2, noEx_ok, RE.bind_ok] at o'
        intro b' H3 Hf3 μ3 st3 so3 eb
        obtain rfl : b = b' := eb
        have stA := (st.trans st2).trans st3
        have pv3 := (pv.step st2).step st3
        cases b with
        | false =>
          rw [if_neg Bool.false_ne_true] at o' ⊢
          exact ⟨by omega, S3, Hf3, μ3, as, xs, stA, so3, pv3, (st2.trans st3).repL ra, by omega, o'⟩
        | true =>
          rw [if_pos rfl] at o' ⊢
          refine ⟨Γ1, S3, Hf3, μ3, sl3.step st3, so3, ?_⟩
          cases e3 : fe Γ1 S3 with
          | no => simp only [e3, noEx_no, RE.bind_no] at o'; exact o'.elim
          | ex C fs S4 => simp only [e3, noEx_ex, RE.bind_no] at o'; exact o'.elim
          | ok z S4 =>
            simp only [e3, noEx_ok, RE.bind_ok] at o'
            intro v H4 Hf4 μ4 st4 so4 rz
            have pv4 := pv3.step st4
            refine ⟨xs, pv4.at_, by omega, by omega, S4, Hf4, μ4, as ++ [z], xs ++ [v], Priv.back hD (stA.trans st4), pv4.sto so4, pv4.upd, RepL.append (((st2.trans st3).trans st4).repL ra) (RepL.cons rz RepL.nil), by simp; omega, ?_⟩
            cases e4 : lcL t fc fe (wipeG Γ vs) (ds.drop (i + 1)) S4 with
            | no => simp only [e4, RE.bind_no] at o'; exact o'.elim
            | ex C fs S5 => simp only [e4, RE.bind_ex] at o' ⊢; exact o'
            | ok ws S5 =>
              simp only [e4, RE.bind_ok] at o' ⊢
              simpa using o'
  · have e : i = ds.length := by omega
    subst e
    rw [List.drop_length] at o'
    unfold lcL at o'
    simp only [RE.bind_ok, List.append_nil] at o'
    exact .inl ⟨wk.stops S' H' Hf' μ' st so', o' (.ref Dl) H' Hf' μ' st so' ⟨Dl, .lst xs, rfl, hD, pv.at_, ⟨xs, rfl, by omega, ra⟩, pv.fz, pv.nm⟩⟩
variable {elt tg iter : Expr} {ifs : List Expr} {scope : Scope} {pos : Pos}
theorem dn_lc (own : List (PySem.Str × Nat)) (hc : X.calm = true) (hN : X.N.Nodup) (hi : DJ X W tg iter it) (ok : BlkOk X.N X.env.scope scope own) (hix : ∀ i ∈ t.ix, i ∈ own.map (·.2))
    (hg : ∀ (s : Shared) (H : Hp) (C : Addr) (cl : List (PySem.Str × Addr)) (fp : List Addr), DG (X.blk s H scope (compEnvC scope cl C X.env) fp) tg t) (ht : ∀ (s : Shared) (H : Hp) (C : Addr) (cl : List (PySem.Str × Addr)) (fp : List Addr), DTs (X.blk s H scope (compEnvC scope cl C X.env) fp) W0 ifs fc)
    (he : ∀ (s : Shared) (H : Hp) (C : Addr) (cl : List (PySem.Str × Addr)) (fp : List Addr), DE (X.blk s H scope (compEnvC scope cl C X.env) fp) W0 elt fe) (hs : ∀ x, foldedSetIterable iter X.env x = pure x := by intro _; rfl) :
    DN X W (.ListComp elt [⟨tg, iter, ifs, 0⟩] scope pos) (nLc it (own.map (·.2)) t fc fe) := PE_imp (pe_lc hc hN hi ok hg ht he hs) fun _ _ _ => tLc_of hix
/-- name = [..] on one line, the name a local -/
theorem ds_newLc {B : Base} {i : Nat} {y : PySem.Str} {py spos : Pos} (own : List (PySem.Str × Nat)) (hc : X.calm = true) (hN : X.N.Nodup) (hi : DJ X W tg iter it) (ok : BlkOk X.N X.env.scope scope own) (hix : ∀ i ∈ t.ix, i ∈ own.map (·.2))
    (hg : ∀ (s : Shared) (H : Hp) (C : Addr) (cl : List (PySem.Str × Addr)) (fp : List Addr), DG (X.blk s H scope (compEnvC scope cl C X.env) fp) tg t) (ht : ∀ (s : Shared) (H : Hp) (C : Addr) (cl : List (PySem.Str × Addr)) (fp : List Addr), DTs (X.blk s H scope (compEnvC scope cl C X.env) fp) W0 ifs fc)
    (he : ∀ (s : Shared) (H : Hp) (C : Addr) (cl : List (PySem.Str × Addr)) (fp : List Addr), DE (X.blk s H scope (compEnvC scope cl C X.env) fp) W0 elt fe) (hsw : swapsWith (.ListComp elt [⟨tg, iter, ifs, 0⟩] scope pos) (some (.Name y py)) spos.line X.env = pure true)
    (hy : X.N[i]? = some y := by rfl) (hyl : X.env.scope.names.lookup y = some .local := by rfl) (hs : ∀ x, foldedSetIterable iter X.env x = pure x := by intro _; rfl) :
    DS X B W (.Assign [.Name y py] (.ListComp elt [⟨tg, iter, ifs, 0⟩] scope pos) spos) (sNew i (nLc it (own.map (·.2)) t fc fe)) := fun fl ml =>
  PS_imp (ps_setLc hc hN hy hyl hsw hi ok hg ht he hs) fun E σ H h => by
    obtain ⟨Γ, S, Hf, μ, sl, so, o⟩ := tS_new h
    exact tLc_of hix ⟨Γ, S, Hf, μ, sl, so, o⟩
theorem ds_setLc {B : Base} {i : Nat} {y : PySem.Str} {py spos : Pos} (own : List (PySem.Str × Nat)) (hc : X.calm = true) (hN : X.N.Nodup) (hi : DJ X W tg iter it) (ok : BlkOk X.N X.env.scope scope own) (hix : ∀ i ∈ t.ix, i ∈ own.map (·.2))
    (hg : ∀ (s : Shared) (H : Hp) (C : Addr) (cl : List (PySem.Str × Addr)) (fp : List Addr), DG (X.blk s H scope (compEnvC scope cl C X.env) fp) tg t) (ht : ∀ (s : Shared) (H : Hp) (C : Addr) (cl : List (PySem.Str × Addr)) (fp : List Addr), DTs (X.blk s H scope (compEnvC scope cl C X.env) fp) W0 ifs fc)
    (he : ∀ (s : Shared) (H : Hp) (C : Addr) (cl : List (PySem.Str × Addr)) (fp : List Addr), DE (X.blk s H scope (compEnvC scope cl C X.env) fp) W0 elt fe) (hsw : swapsWith (.ListComp elt [⟨tg, iter, ifs, 0⟩] scope pos) (some (.Name y py)) spos.line X.env = pure true)
    (hy : X.N[i]? = some y := by rfl) (hyl : X.env.scope.names.lookup y = some .local := by rfl) (hs : ∀ x, foldedSetIterable iter X.env x = pure x := by intro _; rfl) :
    DS X B W (.Assign [.Name y py] (.ListComp elt [⟨tg, iter, ifs, 0⟩] scope pos) spos) (sSet i (eFrz (nLc it (own.map (·.2)) t fc fe))) := fun fl ml =>
  PS_imp (ps_setLc hc hN hy hyl hsw hi ok hg ht he hs) fun E σ H h => by
    obtain ⟨Γ, S, Hf, μ, sl, so, o⟩ := tE_frz (tS_set h)
    exact tLc_of hix ⟨Γ, S, Hf, μ, sl, so, o⟩
end
end DL
set_option Elab.async false
set_option linter.all false
set_option maxRecDepth 100000
set_option maxHeartbeats 4000000
/-! a tuple, once -/
namespace DL
open PySem PySem.Spec PyProof.Rows L2
theorem tuple_mul1W (l : Addr) (items : Array Value) (n : Nat) (dd : Option Addr) (sl : Array (Option Value)) (u : Tok) :
    Meets (Builtin.«tuple.__mul__» ⟨[.ref l, .int 1 u], []⟩) (fun _ R s => s.heap.get? l = some { cls := .type "tuple", dict := dd, data := .seq items n, slots := sl } ∧ R (.ok (.ret (Value.ref l))) s) :=
  .of_wp fun prog w A R s h => by
    obtain ⟨hp, g, d, tk, os⟩ := s
    obtain ⟨hl, h⟩ := h
    have f1 := AutoSeq1.idx_int
    have c0 : (decide ((1 : Int) < -(2 ^ 63)) || decide ((1 : Int) ≥ 2 ^ 63)) = false := by decide
    have c1 : (items.isEmpty || (1 : Int) == 1) = true := by simp
    wp_walk using wpAny_loadPart' hl
    repeat (first
      | (refine wpAny_ite_false (decide_eq_false (by rw [c0]; exact Bool.false_ne_true)) ?_; wp_walk using wpAny_loadPart' hl)
      | (refine wpAny_ite_true (decide_eq_true c1) ?_; wp_walk using wpAny_loadPart' hl))
    exact ⟨_, rfl, h⟩
/-- the same tuple comes back -/
def rRep1 (K : PySem.W.Frag) : R2 := fun x y H Q => ∃ l xs, x = .ref l ∧ y = .int 1 ∧ SqT K H l xs ∧ Q (.ref l) H
section
variable {X : Cx}
theorem op_rep1 : OpR X (binaryOp .Mult) (rRep1 X.K) := by
  intro pins s σ H x y v u Q I rx ry h
  obtain ⟨l, xs, rfl, rfl, hT, q⟩ := h
  cases rx
  obtain ⟨t, rfl⟩ := ry
  obtain ⟨its, r, ⟨⟨cls, dd, data, sl⟩, ho, hc, n, hd⟩, hs⟩ := I.tuple hT
  simp only at hc hd
  subst hc hd
  refine wpAny_binaryOp_repeat_ref (T := "tuple") (U := "int") (by decide) ⟨_, ho, rfl⟩ (fun s' => typeIs_int s' 1 t) noFill_tuple_mul F.fills_int_mul F.slot_int_rmul repeat_tuple F.slot_int_index.lookup
    (call_meets F.slot_int_rmul (typeIs_int s 1 t) F.entry_int_rmul (F.args_int_rmul_2 _ _) (int_rmul_tuple 1 t l its.toArray n dd sl)
      ⟨ho, rfl, ⟨_, ho, rfl⟩, call_meets F.slot_tuple_mul ⟨_, ho, rfl⟩ F.entry_tuple_mul (F.args_tuple_mul_2 _ _) (tuple_mul1W l its.toArray n dd sl t) ⟨ho, ?_⟩⟩)
  exact ⟨.ref l, _, I, rfl, q⟩
end
end DL
set_option Elab.async false
set_option linter.all false
set_option maxRecDepth 100000
/-! DLf: operations on data: borrowed operands, arithmetic, comparisons. -/
namespace DL
open PySem PySem.Spec PyProof.Rows L2

/-! ### data as the library's data -/
mutual
def pyD : D → Option PyData
  | .non => some .none
  | .bl b => some (.bool b)
  | .int i => some (.int i)
  | .str s => some (.str s)
  | .tup ds => (pyDL ds).map .tuple
  | .lst ds => (pyDL ds).map .list
  | .kst ds => (pyDL ds).map .list
  | .loc _ => none
  | .raw _ => none
  | .emp => none
def pyDL : List D → Option (List PyData)
  | [] => some []
  | d :: ds => match pyD d, pyDL ds with
    | some p, some ps => some (p :: ps)
    | _, _ => none
end
mutual
/-- the store's lists, one deep -/
def pyS (S : Store) : D → Option PyData
  | .non => some .none
  | .bl b => some (.bool b)
  | .int i => some (.int i)
  | .str s => some (.str s)
  | .tup ds => (pySL S ds).map .tuple
  | .lst ds => (pySL S ds).map .list
  | .kst ds => (pySL S ds).map .list
  | .loc n => match S[n]? with
    | some (.lst ds) => (pyDL ds).map .list
    | _ => none
  | .raw _ => none
  | .emp => none
def pySL (S : Store) : List D → Option (List PyData)
  | [] => some []
  | d :: ds => match pyS S d, pySL S ds with
    | some p, some ps => some (p :: ps)
    | _, _ => none
end
section
variable {K : PySem.W.Frag} {μ : List Addr} {H Hf : Hp} {S : Store}
mutual
theorem dp_of (hs : Sub Hf H) : ∀ (d : D) (v : V) (p : PyData), Rep K μ Hf d v → pyD d = some p → Dp K H v p
  | .non, v, p, r, e => by
    simp only [Rep] at r; simp only [pyD, Option.some.injEq] at e; subst r e; exact .non
  | .bl b, v, p, r, e => by
    simp only [Rep] at r; simp only [pyD, Option.some.injEq] at e; subst r e; exact .bl b
  | .int i, v, p, r, e => by
    simp only [Rep] at r; simp only [pyD, Option.some.injEq] at e; subst r e; exact .int i
  | .str s, v, p, r, e => by
    simp only [Rep] at r; simp only [pyD, Option.some.injEq] at e; subst r e; exact .str s
  | .tup ds, v, p, r, e => by
    simp only [Rep] at r
    obtain ⟨a, xs, rfl, q, _, rl⟩ := r
    simp only [pyD] at e
    cases e2 : pyDL ds with
    | none => rw [e2] at e; cases e
    | some ps => rw [e2] at e; cases e; exact .tup (hs.tp q) (dps_of hs ds xs ps rl e2)
  | .lst ds, v, p, r, e => by
    simp only [Rep] at r
    obtain ⟨a, xs, rfl, q, _, rl⟩ := r
    simp only [pyD] at e
    cases e2 : pyDL ds with
    | none => rw [e2] at e; cases e
    | some ps => rw [e2] at e; cases e; exact .lst (SqL.of (hs _ _ q)) (dps_of hs ds xs ps rl e2)
  | .kst ds, v, p, r, e => by
    simp only [Rep] at r
    obtain ⟨a, xs, rfl, q, _, rl⟩ := r
    simp only [pyD] at e
    cases e2 : pyDL ds with
    | none => rw [e2] at e; cases e
    | some ps => rw [e2] at e; cases e; exact .lst (hs.sl q) (dps_of hs ds xs ps rl e2)
  | .loc _, v, p, r, e => by simp only [pyD] at e; cases e
  | .raw _, v, p, r, e => by simp only [pyD] at e; cases e
  | .emp, v, p, r, e => by simp only [pyD] at e; cases e
theorem dps_of (hs : Sub Hf H) : ∀ (ds : List D) (vs : List V) (ps : List PyData), RepL K μ Hf ds vs → pyDL ds = some ps → DpAll K H vs ps
  | [], vs, ps, r, e => by
    simp only [RepL] at r; simp only [pyDL, Option.some.injEq] at e; subst r e; exact .nil
  | d :: ds, vs, ps, r, e => by
    simp only [RepL] at r
    obtain ⟨x, xs, rfl, q, rl⟩ := r
    simp only [pyDL] at e
    cases e1 : pyD d with
    | none => rw [e1] at e; cases e
    | some p =>
      rw [e1] at e
      cases e2 : pyDL ds with
      | none => rw [e2] at e; cases e
      | some qs => rw [e2] at e; cases e; exact .cons (dp_of hs d x p q e1) (dps_of hs ds xs qs rl e2)
end
mutual
theorem dpS_of (so : StoOk K S H Hf μ) : ∀ (d : D) (v : V) (p : PyData), Rep K μ Hf d v → pyS S d = some p → Dp K H v p
  | .non, v, p, r, e => by
    simp only [Rep] at r; simp only [pyS, Option.some.injEq] at e; subst r e; exact .non
  | .bl b, v, p, r, e => by
    simp only [Rep] at r; simp only [pyS, Option.some.injEq] at e; subst r e; exact .bl b
  | .int i, v, p, r, e => by
    simp only [Rep] at r; simp only [pyS, Option.some.injEq] at e; subst r e; exact .int i
  | .str s, v, p, r, e => by
    simp only [Rep] at r; simp only [pyS, Option.some.injEq] at e; subst r e; exact .str s
  | .tup ds, v, p, r, e => by
    simp only [Rep] at r
    obtain ⟨a, xs, rfl, q, _, rl⟩ := r
    simp only [pyS] at e
    cases e2 : pySL S ds with
    | none => rw [e2] at e; cases e
    | some ps => rw [e2] at e; cases e; exact .tup (so.sub.tp q) (dpsS_of so ds xs ps rl e2)
  | .lst ds, v, p, r, e => by
    simp only [Rep] at r
    obtain ⟨a, xs, rfl, q, _, rl⟩ := r
    simp only [pyS] at e
    cases e2 : pySL S ds with
    | none => rw [e2] at e; cases e
    | some ps => rw [e2] at e; cases e; exact .lst (SqL.of (so.sub _ _ q)) (dpsS_of so ds xs ps rl e2)
  | .kst ds, v, p, r, e => by
    simp only [Rep] at r
    obtain ⟨a, xs, rfl, q, _, rl⟩ := r
    simp only [pyS] at e
    cases e2 : pySL S ds with
    | none => rw [e2] at e; cases e
    | some ps => rw [e2] at e; cases e; exact .lst (so.sub.sl q) (dpsS_of so ds xs ps rl e2)
  | .loc n, v, p, r, e => by
    simp only [Rep] at r
    obtain ⟨a, rfl, q⟩ := r
    simp only [pyS] at e
    cases e2 : S[n]? with
    | none => rw [e2] at e; cases e
    | some o =>
      rw [e2] at e
      cases o with
      | lst es =>
        obtain ⟨u, h1, ⟨xs, rfl, z, rl⟩⟩ := so.ob n _ a e2 q
        cases e3 : pyDL es with
        | none => simp only [e3] at e; cases e
        | some ps => simp only [e3] at e; cases e; exact .lst (SqL.of h1) (dps_of so.sub es xs ps rl e3)
      | _ => cases e
  | .raw _, v, p, r, e => by simp only [pyS] at e; cases e
  | .emp, v, p, r, e => by simp only [pyS] at e; cases e
theorem dpsS_of (so : StoOk K S H Hf μ) : ∀ (ds : List D) (vs : List V) (ps : List PyData), RepL K μ Hf ds vs → pySL S ds = some ps → DpAll K H vs ps
  | [], vs, ps, r, e => by
    simp only [RepL] at r; simp only [pySL, Option.some.injEq] at e; subst r e; exact .nil
  | d :: ds, vs, ps, r, e => by
    simp only [RepL] at r
    obtain ⟨x, xs, rfl, q, rl⟩ := r
    simp only [pySL] at e
    cases e1 : pyS S d with
    | none => rw [e1] at e; cases e
    | some p =>
      rw [e1] at e
      cases e2 : pySL S ds with
      | none => rw [e2] at e; cases e
      | some qs => rw [e2] at e; cases e; exact .cons (dpS_of so d x p q e1) (dpsS_of so ds xs qs rl e2)
end
theorem dpsS_list (so : StoOk K S H Hf μ) {ds : List D} {xs : List V} {p : PyData} (rl : RepL K μ Hf ds xs) (h : (pySL S ds).map PyData.list = some p) {a : Addr} (hq : SqL K H a xs) : Dp K H (.ref a) p := by
  cases e2 : pySL S ds with
  | none => rw [e2] at h; cases h
  | some ps => rw [e2] at h; cases h; exact .lst hq (dpsS_of so ds xs ps rl e2)
theorem bor_dp (so : StoOk K S H Hf μ) {d : D} {v : V} {p : PyData} (b : Bor K H Hf μ d v) (h : pyS S d = some p) : Dp K H v p := by
  rcases b with r | ⟨ds, a, xs, rfl, rfl, ha, z, rl⟩
  · exact dpS_of so d v p r h
  · simp only [pyS] at h
    exact dpsS_list so rl h (SqL.of ha)
end

/-! ### a value that is used at once, two of them -/
theorem BorR.keep {K : PySem.W.Frag} {Γ : Gm} {σ : L2.St} {H Hf H' Hf' H0 H0' : Hp} {μ μ' : List Addr} {d : D} {v : V} (s : Step H Hf μ H' Hf' μ') (b : BorR K σ Γ H0 H Hf μ d v) : BorR K σ Γ H0' H' Hf' μ' d v := by
  rcases b with r | r
  · exact .inl (s.rep r)
  · exact .inr r
abbrev Op2 := Store → D → D → Option D
def eBin2 (op : Op2) (a b : Ev D) : Ev D := fun Γ S => (a Γ S).bind fun x S1 => (b Γ S1).bind fun y S2 => match op S2 x y with
  | some z => .ok z S2
  | none => .no
def OpB (K : PySem.W.Frag) (r : R2) (op : Op2) : Prop := ∀ (S : Store) (H Hf : Hp) (μ : List Addr) (x y : V) (a b c : D) (Q : VK), StoOk K S H Hf μ → Bor K H Hf μ a x → Bor K H Hf μ b y → op S a b = some c →
  (∀ v H' Hf' μ', Step H Hf μ H' Hf' μ' → StoOk K S H' Hf' μ' → Rep K μ' Hf' c v → Q v H') → r x y H Q
section
variable {X : Cx} {W : WX} {a b : Expr} {fa fb : Ev D} {pos : Pos} {r : R2} {op : Op2}
theorem tE_bin2 {K : PySem.W.Frag} (hop : OpB K r op) {σ : L2.St} {H : Hp} {Q : VK} (q : tE K W (eBin2 op fa fb) σ H Q) : tOp r (tBo K W fa) (tBo K W fb) σ H Q := by
  obtain ⟨Γ, S, Hf, μ, sl, so, o⟩ := q
  refine ⟨Γ, S, Hf, μ, sl, so, Out.bind sl rm_rep o fun x S1 v H1 Hf1 μ1 _ s1 sl1 so1 r1 o1 => ?_⟩
  refine ⟨Γ, S1, Hf1, μ1, sl1, so1, Out.bind sl1 rm_rep o1 fun y S2 u H2 Hf2 μ2 _ s2 sl2 so2 r2 o2 => ?_⟩
  cases e : op S2 x y with
  | none => rw [e] at o2; exact o2.elim
  | some z =>
    rw [e] at o2
    exact hop S2 H2 Hf2 μ2 v u x y z Q so2 (BorR.bor sl2 (BorR.keep (H0' := H) s2 r1)) (BorR.bor sl2 r2) e o2
theorem de_op2 {o : Operator} (ho : OpR X (binaryOp o) r) (hop : OpB X.K r op) (ha : DB X W a fa) (hb : DB X W b fb) : DE X W (.BinOp a o b pos) (eBin2 op fa fb) :=
  PE_imp (pe_op ho ha hb) fun _ _ _ => tE_bin2 hop
theorem de_cmp2 {o : CmpOp} (ho : OpR X (compareOp o) r) (hop : OpB X.K r op) (ha : DB X W a fa) (hb : DB X W b fb) (hm : behindInMarks o b = false := by rfl) : DE X W (.Compare a [o] [b] pos) (eBin2 op fa fb) :=
  PE_imp (pe_cmpR ho ha hb hm) fun _ _ _ => tE_bin2 hop
theorem dt_cmp2 {o : CmpOp} (ho : OpR X (compareOp o) r) (hop : OpB X.K r op) (ha : DB X W a fa) (hb : DB X W b fb) (hm : behindInMarks o b = false := by rfl) : DT X W (.Compare a [o] [b] pos) (toB (eBin2 op fa fb)) := by
  refine PT_imp (pt_cmpR ho ha hb hm) fun σ H Q q => ?_
  obtain ⟨Γ, S, Hf, μ, sl, so, o⟩ := tE_toB q
  exact tE_bin2 hop ⟨Γ, S, Hf, μ, sl, so, o⟩
theorem OpB.or {K : PySem.W.Frag} {r r' : R2} {op : Op2} {c : Store → D → D → Bool} (h : OpB K r (fun S a b => if c S a b then op S a b else none)) (h' : OpB K r' (fun S a b => if c S a b then none else op S a b)) : OpB K (fun x y H Q => r x y H Q ∨ r' x y H Q) op := by
  intro S H Hf μ x y a b d Q so bx by_ e k
  cases e2 : c S a b with
  | true => exact .inl (h S H Hf μ x y a b d Q so bx by_ (by simp only [e2, if_true]; exact e) k)
  | false => exact .inr (h' S H Hf μ x y a b d Q so bx by_ (by simp only [e2]; exact e) k)
end
section
variable {K : PySem.W.Frag} {S : Store} {H Hf : Hp} {μ : List Addr} {x y : V} {a b c : D} {Q : VK}
theorem Bor.int {i : Int} (h : Bor K H Hf μ (.int i) x) : x = .int i := by
  rcases h with r | ⟨_, _, _, z, _⟩
  · simpa only [Rep] using r
  · cases z
theorem Bor.bl {i : Bool} (h : Bor K H Hf μ (.bl i) x) : x = .bl i := by
  rcases h with r | ⟨_, _, _, z, _⟩
  · simpa only [Rep] using r
  · cases z
theorem Bor.str {i : PySem.Str} (h : Bor K H Hf μ (.str i) x) : x = .str i := by
  rcases h with r | ⟨_, _, _, z, _⟩
  · simpa only [Rep] using r
  · cases z
theorem Bor.non (h : Bor K H Hf μ .non x) : x = .non := by
  rcases h with r | ⟨_, _, _, z, _⟩
  · simpa only [Rep] using r
  · cases z
theorem Bor.raw {w : V} (h : Bor K H Hf μ (.raw w) x) : x = w := by
  rcases h with r | ⟨_, _, _, z, _⟩
  · simpa only [Rep] using r
  · cases z
theorem Bor.tup {ds : List D} (h : Bor K H Hf μ (.tup ds) x) : ∃ a xs, x = V.ref a ∧ Hf a = some (.tup xs) ∧ xs.length ≤ sizeLine ∧ RepL K μ Hf ds xs := by
  rcases h with r | ⟨_, _, _, z, _⟩
  · simpa only [Rep] using r
  · cases z
theorem Bor.lst {ds : List D} (so : StoOk K S H Hf μ) (h : Bor K H Hf μ (.lst ds) x) : ∃ a xs, x = V.ref a ∧ H a = some (.lst xs) ∧ xs.length ≤ sizeLine ∧ RepL K μ Hf ds xs := by
  rcases h with r | ⟨es, a, xs, e, rfl, ha, z, rl⟩
  · simp only [Rep] at r
    obtain ⟨a, xs, e, q, z, rl⟩ := r
    exact ⟨a, xs, e, so.sub _ _ q, z, rl⟩
  · cases e
    exact ⟨a, xs, rfl, ha, z, rl⟩
/-- ints, an operation that always comes -/
theorem opB_int {g : Int → Int → V} {G : Int → Int → D} {C : Int → Int → Bool} {P : Int → Int → Prop} (hC : ∀ i j, C i j = true → P i j) (hg : ∀ i j μ Hf, Rep K μ Hf (G i j) (g i j)) :
    OpB K (rI P g) (fun _ a b => match a, b with | .int i, .int j => if C i j then some (G i j) else none | _, _ => none) := by
  intro S H Hf μ x y a b c Q so bx by_ e k
  cases a <;> cases b <;> first | (simp at e; done) | skip
  rename_i i j
  simp only at e
  split at e
  · cases e
    exact ⟨i, j, bx.int, by_.int, hC i j (by assumption), k _ H Hf μ (Step.refl _ _ _) so (hg i j μ Hf)⟩
  · cases e
theorem opB_int0 {g : Int → Int → V} {G : Int → Int → D} (hg : ∀ i j μ Hf, Rep K μ Hf (G i j) (g i j)) :
    OpB K (rI0 g) (fun _ a b => match a, b with | .int i, .int j => some (G i j) | _, _ => none) := by
  intro S H Hf μ x y a b c Q so bx by_ e k
  cases a <;> cases b <;> first | (simp at e; done) | skip
  rename_i i j
  cases e
  exact ⟨i, j, bx.int, by_.int, k _ H Hf μ (Step.refl _ _ _) so (hg i j μ Hf)⟩
end

/-! ### arithmetic -/
def mulOk (i j : Int) : Bool := (decide (-(2 ^ 64) < i) && decide (i < 2 ^ 64)) || (decide (-(2 ^ 64) < j) && decide (j < 2 ^ 64))
def divOk (_ j : Int) : Bool := decide (0 < j) && decide (j < 1073741824)
def powOk (i j : Int) : Bool := decide (0 ≤ j) && decide (j ≤ 1000000) && decide (i.natAbs < 2 ^ 64)
def oSub : Op2 := fun _ a b => match a, b with
  | .int i, .int j => some (.int (i - j))
  | _, _ => none
def oFdv : Op2 := fun _ a b => match a, b with
  | .int i, .int j => if divOk i j then some (.int (i / j)) else none
  | _, _ => none
def oMod : Op2 := fun _ a b => match a, b with
  | .int i, .int j => if decide (0 < j) then some (.int (i % j)) else none
  | _, _ => none
def oPow : Op2 := fun _ a b => match a, b with
  | .int i, .int j => if powOk i j then some (.int (i ^ j.toNat)) else none
  | _, _ => none
section
variable {X : Cx} {W : WX} {a b : Expr} {fa fb : Ev D} {pos : Pos}
theorem de_sub (ha : DB X W a fa) (hb : DB X W b fb) : DE X W (.BinOp a .Sub b pos) (eBin2 oSub fa fb) := de_op2 op_sub (opB_int0 fun _ _ _ _ => by simp only [Rep]) ha hb
theorem de_fdv (ha : DB X W a fa) (hb : DB X W b fb) : DE X W (.BinOp a .FloorDiv b pos) (eBin2 oFdv fa fb) :=
  de_op2 op_fdiv (opB_int (C := divOk) (G := fun i j => .int (i / j)) (fun i j h => by simpa [divOk, CDiv] using h) fun _ _ _ _ => by simp only [Rep]) ha hb
theorem de_mod (ha : DB X W a fa) (hb : DB X W b fb) : DE X W (.BinOp a .Mod b pos) (eBin2 oMod fa fb) :=
  de_op2 op_mod (opB_int (C := fun _ j => decide (0 < j)) (G := fun i j => .int (i % j)) (fun i j h => by simpa using h) fun _ _ _ _ => by simp only [Rep]) ha hb
theorem de_pow (ha : DB X W a fa) (hb : DB X W b fb) : DE X W (.BinOp a .Pow b pos) (eBin2 oPow fa fb) :=
  de_op2 op_pow (opB_int (C := powOk) (G := fun i j => .int (i ^ j.toNat)) (fun i j h => by simpa [powOk, CPow, and_assoc] using h) fun _ _ _ _ => by simp only [Rep]) ha hb
end
/-- +: ints, texts, tuples, lists -/
def oAdd : Op2 := fun _ a b => match a, b with
  | .int i, .int j => some (.int (i + j))
  | .str i, .str j => if i.length + j.length ≤ sizeLine then some (.str (i ++ j)) else none
  | .tup xs, .tup ys => if xs.length + ys.length ≤ sizeLine then some (.tup (xs ++ ys)) else none
  | .lst xs, .lst ys => if xs.length + ys.length ≤ sizeLine then some (.lst (xs ++ ys)) else none
  | _, _ => none
def rAdd4 (K : PySem.W.Frag) : R2 := fun x y H Q => ((rI0 (fun i j => .int (i + j))) x y H Q ∨ (∃ i j, x = .str i ∧ y = .str j ∧ i.length + j.length ≤ sizeLine ∧ Q (.str (i ++ j)) H)) ∨ (rCatA K x y H Q ∨ rCat x y H Q)
theorem opb_add {K : PySem.W.Frag} : OpB K (rAdd4 K) oAdd := by
  intro S H Hf μ x y a b c Q so bx by_ e k
  unfold oAdd at e
  cases a <;> cases b <;> first | (simp at e; done) | skip
  · rename_i i j
    cases e
    exact .inl (.inl ⟨i, j, bx.int, by_.int, k _ H Hf μ (Step.refl _ _ _) so (by simp only [Rep])⟩)
  · rename_i i j
    simp only at e
    split at e
    · cases e
      exact .inl (.inr ⟨i, j, bx.str, by_.str, by assumption, k _ H Hf μ (Step.refl _ _ _) so (by simp only [Rep])⟩)
    · cases e
  · rename_i xs ys
    simp only at e
    split at e
    next hz =>
      cases e
      obtain ⟨a1, vs, rfl, h1, z1, r1⟩ := bx.tup
      obtain ⟨a2, us, rfl, h2, z2, r2⟩ := by_.tup
      refine .inr (.inl ⟨a1, a2, vs, us, rfl, rfl, so.sub.tp h1, so.sub.tp h2, by rw [r1.length, r2.length]; exact hz, fun h => ?_, fun h1' h => ?_, fun _ _ p hp => ?_⟩)
      · refine k _ H Hf μ (Step.refl _ _ _) so ?_
        subst h
        have : xs = [] := List.eq_nil_of_length_eq_zero (by rw [← r1.length]; rfl)
        subst this
        simp only [Rep, List.nil_append]; exact ⟨a2, us, rfl, h2, z2, r2⟩
      · refine k _ H Hf μ (Step.refl _ _ _) so ?_
        subst h
        have : ys = [] := List.eq_nil_of_length_eq_zero (by rw [← r2.length]; rfl)
        subst this
        simp only [Rep, List.append_nil]; exact ⟨a1, vs, rfl, h1, z1, r1⟩
      · obtain ⟨st, so2⟩ := Step.lay (u := .tup (vs ++ us)) so hp
        refine k _ _ _ μ st so2 ?_
        simp only [Rep]
        exact ⟨p, _, rfl, upd_same, by rw [List.length_append, r1.length, r2.length]; exact hz, RepL.append (st.repL r1) (st.repL r2)⟩
    · cases e
  · rename_i xs ys
    simp only at e
    split at e
    next hz =>
      cases e
      obtain ⟨a1, vs, rfl, h1, z1, r1⟩ := bx.lst so
      obtain ⟨a2, us, rfl, h2, z2, r2⟩ := by_.lst so
      refine .inr (.inr ⟨a1, a2, vs, us, rfl, rfl, h1, h2, by rw [r1.length, r2.length]; exact hz, fun p hp => ?_⟩)
      obtain ⟨st, so2⟩ := Step.lay (u := .lst (vs ++ us)) so hp
      refine k _ _ _ μ st so2 ?_
      simp only [Rep]
      exact ⟨p, _, rfl, upd_same, by rw [List.length_append, r1.length, r2.length]; exact hz, RepL.append (st.repL r1) (st.repL r2)⟩
    · cases e
/-- *: ints; a tuple so many times -/
def oMul : Op2 := fun _ a b => match a, b with
  | .int i, .int j => if mulOk i j then some (.int (i * j)) else none
  | .tup xs, .int k => if k = 1 then some (.tup xs) else if decide (2 ≤ k) && decide (k ≤ 1000) && decide (xs.length ≤ 1000) && !xs.isEmpty then some (.tup (List.replicate k.toNat xs).flatten) else none
  | _, _ => none
theorem flat_len {α : Type} (n : Nat) (xs : List α) : (List.replicate n xs).flatten.length = n * xs.length := by
  induction n with
  | zero => simp
  | succ n ih => rw [List.replicate_succ, List.flatten_cons, List.length_append, ih, Nat.succ_mul, Nat.add_comm]
theorem RepL.repl {K : PySem.W.Frag} {μ : List Addr} {Hf : Hp} {ds : List D} {vs : List V} (r : RepL K μ Hf ds vs) : ∀ n : Nat, RepL K μ Hf (List.replicate n ds).flatten (List.replicate n vs).flatten
  | 0 => RepL.nil
  | n + 1 => by
    rw [List.replicate_succ, List.replicate_succ, List.flatten_cons, List.flatten_cons]
    exact RepL.append r (RepL.repl r n)
theorem opb_mul {K : PySem.W.Frag} : OpB K (fun x y H Q => ((rI CMul fun i j => .int (i * j)) x y H Q ∨ rRepT K x y H Q) ∨ rRep1 K x y H Q) oMul := by
  intro S H Hf μ x y a b c Q so bx by_ e k
  unfold oMul at e
  cases a <;> cases b <;> first | (simp at e; done) | skip
  · rename_i i j
    simp only at e
    split at e
    next h =>
      cases e
      exact .inl (.inl ⟨i, j, bx.int, by_.int, by simpa [mulOk, CMul] using h, k _ H Hf μ (Step.refl _ _ _) so (by simp only [Rep])⟩)
    · cases e
  · rename_i xs n
    simp only at e
    split at e
    next h =>
      cases e
      subst h
      obtain ⟨a1, vs, rfl, q1, z1, r1⟩ := bx.tup
      exact .inr ⟨a1, vs, rfl, by_.int, so.sub.tp q1, k _ H Hf μ (Step.refl _ _ _) so (by simp only [Rep]; exact ⟨a1, vs, rfl, q1, z1, r1⟩)⟩
    split at e
    next h =>
      cases e
      simp only [Bool.and_eq_true, decide_eq_true_eq, Bool.not_eq_true', List.isEmpty_eq_false_iff] at h
      obtain ⟨⟨⟨h1, h2⟩, h3⟩, h4⟩ := h
      obtain ⟨a1, vs, rfl, q1, z1, r1⟩ := bx.tup
      refine .inl (.inr ⟨a1, n, vs, rfl, by_.int, so.sub.tp q1, fun z => ?_, h1, h2, by rw [r1.length]; exact h3, fun p hp => ?_⟩)
      · subst z
        exact h4 (List.eq_nil_of_length_eq_zero (by rw [← r1.length]; rfl))
      · obtain ⟨st, so2⟩ := Step.lay (u := .tup (List.replicate n.toNat vs).flatten) so hp
        refine k _ _ _ μ st so2 ?_
        simp only [Rep]
        refine ⟨p, _, rfl, upd_same, ?_, RepL.repl (st.repL r1) _⟩
        rw [flat_len, r1.length]
        have : n.toNat * xs.length ≤ 1000 * 1000 := Nat.mul_le_mul (by omega) h3
        rw [sizeLine_eq]; omega
    · cases e
section
variable {X : Cx} {W : WX} {a b : Expr} {fa fb : Ev D} {pos : Pos}
theorem de_add (ha : DB X W a fa) (hb : DB X W b fb) : DE X W (.BinOp a .Add b pos) (eBin2 oAdd fa fb) := de_op2 ((op_add.or op_add_str).or (op_catA.or op_cat)) opb_add ha hb
theorem de_mul (ha : DB X W a fa) (hb : DB X W b fb) : DE X W (.BinOp a .Mult b pos) (eBin2 oMul fa fb) := de_op2 ((op_mul.or op_repT).or op_rep1) opb_mul ha hb
end

/-! ### comparisons -/
def intsOf : List D → Option (List Int)
  | [] => some []
  | .int i :: ds => (intsOf ds).map (i :: ·)
  | _ => none
theorem ints_of {K : PySem.W.Frag} {μ : List Addr} {Hf : Hp} : ∀ {ds : List D} {vs : List V} {ns : List Int}, RepL K μ Hf ds vs → intsOf ds = some ns → vs = ns.map V.int
  | [], vs, ns, r, e => by simp only [RepL] at r; simp only [intsOf, Option.some.injEq] at e; subst r e; rfl
  | d :: ds, vs, ns, r, e => by
    simp only [RepL] at r
    obtain ⟨x, xs, rfl, q, rl⟩ := r
    cases d <;> first | (simp [intsOf] at e; done) | skip
    rename_i i
    simp only [intsOf] at e
    cases e2 : intsOf ds with
    | none => rw [e2] at e; cases e
    | some ms =>
      rw [e2] at e
      cases e
      simp only [Rep] at q
      subst q
      rw [ints_of rl e2]
      rfl
/-- <: ints; tuples of ints -/
def oLt : Op2 := fun _ a b => match a, b with
  | .int i, .int j => some (.bl (decide (i < j)))
  | .tup xs, .tup ys => match intsOf xs, intsOf ys with
    | some ns, some ms => some (.bl (HT.lexLt ns ms))
    | _, _ => none
  | _, _ => none
theorem opb_lt {K : PySem.W.Frag} : OpB K (fun x y H Q => (rI0 fun i j => .bl (decide (i < j))) x y H Q ∨ rLtT K x y H Q) oLt := by
  intro S H Hf μ x y a b c Q so bx by_ e k
  unfold oLt at e
  cases a <;> cases b <;> first | (simp at e; done) | skip
  · rename_i i j
    cases e
    exact .inl ⟨i, j, bx.int, by_.int, k _ H Hf μ (Step.refl _ _ _) so (by simp only [Rep])⟩
  · rename_i xs ys
    simp only at e
    cases e1 : intsOf xs with
    | none => rw [e1] at e; cases e
    | some ns =>
      cases e2 : intsOf ys with
      | none => rw [e1, e2] at e; cases e
      | some ms =>
        rw [e1, e2] at e
        cases e
        obtain ⟨a1, vs, rfl, h1, z1, r1⟩ := bx.tup
        obtain ⟨a2, us, rfl, h2, z2, r2⟩ := by_.tup
        have q1 := ints_of r1 e1
        have q2 := ints_of r2 e2
        subst q1 q2
        exact .inr ⟨a1, a2, ns, ms, rfl, rfl, so.sub.tp h1, so.sub.tp h2, k _ H Hf μ (Step.refl _ _ _) so (by simp only [Rep])⟩
def oLe : Op2 := fun _ a b => match a, b with
  | .int i, .int j => some (.bl (decide (i ≤ j)))
  | _, _ => none
def oGt : Op2 := fun _ a b => match a, b with
  | .int i, .int j => some (.bl (decide (j < i)))
  | _, _ => none
def oGe : Op2 := fun _ a b => match a, b with
  | .int i, .int j => some (.bl (decide (j ≤ i)))
  | _, _ => none
theorem opb_le {K : PySem.W.Frag} : OpB K (rI0 fun i j => .bl (decide (i ≤ j))) oLe := opB_int0 fun _ _ _ _ => by simp only [Rep]
theorem opb_gt {K : PySem.W.Frag} : OpB K (rI0 fun i j => .bl (decide (j < i))) oGt := opB_int0 fun _ _ _ _ => by simp only [Rep]
theorem opb_ge {K : PySem.W.Frag} : OpB K (rI0 fun i j => .bl (decide (j ≤ i))) oGe := opB_int0 fun _ _ _ _ => by simp only [Rep]
/-- ==: ints, texts at once; all else as data -/
def eqData (S : Store) (a b : D) : Option Bool := match a, b with
  | .int i, .int j => some (decide (i = j))
  | .str i, .str j => some (decide (i = j))
  | .bl i, .bl j => some (decide (i = j))
  | _, _ => match pyS S a, pyS S b with
    | some p, some q => if SeqAt.shaped p && SeqAt.shaped q then some (PyData.eqv p q) else none
    | _, _ => none
def oEq : Op2 := fun S a b => (eqData S a b).map .bl
def oNe : Op2 := fun S a b => (eqData S a b).map fun k => .bl (!k)
theorem eqData_cases {K : PySem.W.Frag} {S : Store} {H Hf : Hp} {μ : List Addr} {x y : V} {a b : D} {k : Bool} (so : StoOk K S H Hf μ) (bx : Bor K H Hf μ a x) (by_ : Bor K H Hf μ b y) (e : eqData S a b = some k) :
    (scal x y = true ∧ k = decide (x = y)) ∨ ∃ p q, Dp K H x p ∧ Dp K H y q ∧ SeqAt.shaped p = true ∧ SeqAt.shaped q = true ∧ k = PyData.eqv p q := by
  unfold eqData at e
  split at e
  · cases e
    have h1 := bx.int
    have h2 := by_.int
    subst h1 h2
    exact .inl ⟨rfl, by simp⟩
  · cases e
    have h1 := bx.str
    have h2 := by_.str
    subst h1 h2
    exact .inl ⟨rfl, by simp⟩
  · cases e
    have h1 := bx.bl
    have h2 := by_.bl
    subst h1 h2
    exact .inl ⟨rfl, by simp⟩
  · split at e
    next p q e1 e2 =>
      split at e
      next h =>
        cases e
        simp only [Bool.and_eq_true] at h
        exact .inr ⟨p, q, bor_dp so bx e1, bor_dp so by_ e2, h.1, h.2, rfl⟩
      · cases e
    · cases e
theorem opb_eq {K : PySem.W.Frag} : OpB K (fun x y H Q => rEq x y H Q ∨ rEqD K x y H Q) oEq := by
  intro S H Hf μ x y a b c Q so bx by_ e k
  unfold oEq at e
  cases e2 : eqData S a b with
  | none => rw [e2] at e; cases e
  | some t =>
    rw [e2] at e
    cases e
    rcases eqData_cases so bx by_ e2 with ⟨h1, rfl⟩ | ⟨p, q, h1, h2, h3, h4, rfl⟩
    · exact .inl ⟨h1, k _ H Hf μ (Step.refl _ _ _) so (by simp only [Rep])⟩
    · exact .inr ⟨p, q, h1, h2, h3, h4, k _ H Hf μ (Step.refl _ _ _) so (by simp only [Rep])⟩
theorem opb_ne {K : PySem.W.Frag} : OpB K (fun x y H Q => rNe x y H Q ∨ rNeD K x y H Q) oNe := by
  intro S H Hf μ x y a b c Q so bx by_ e k
  unfold oNe at e
  cases e2 : eqData S a b with
  | none => rw [e2] at e; cases e
  | some t =>
    rw [e2] at e
    cases e
    rcases eqData_cases so bx by_ e2 with ⟨h1, rfl⟩ | ⟨p, q, h1, h2, h3, h4, rfl⟩
    · exact .inl ⟨h1, k _ H Hf μ (Step.refl _ _ _) so (by simp only [Rep])⟩
    · exact .inr ⟨p, q, h1, h2, h3, h4, k _ H Hf μ (Step.refl _ _ _) so (by simp only [Rep])⟩
/-- is None -/
def isNon : D → Bool
  | .non => true
  | _ => false
def oIsN : Op2 := fun _ a b => match a, b with
  | .raw _, _ => none
  | a, .non => some (.bl (isNon a))
  | _, _ => none
def oNotN : Op2 := fun _ a b => match a, b with
  | .raw _, _ => none
  | a, .non => some (.bl (!isNon a))
  | _, _ => none
theorem isNon_of {K : PySem.W.Frag} {H Hf : Hp} {μ : List Addr} {x : V} {a : D} (bx : Bor K H Hf μ a x) (h : ∀ w, a ≠ .raw w) : isNon a = decide (x = .non) := by
  rcases bx with r | ⟨ds, p, xs, rfl, rfl, _⟩
  · cases a with
    | non => simp only [Rep] at r; subst r; rfl
    | bl b => simp only [Rep] at r; subst r; rfl
    | int b => simp only [Rep] at r; subst r; rfl
    | str b => simp only [Rep] at r; subst r; rfl
    | raw w => exact absurd rfl (h w)
    | loc n => simp only [Rep] at r; obtain ⟨p, rfl, _⟩ := r; rfl
    | emp => simp only [Rep] at r; obtain ⟨p, rfl, _⟩ := r; rfl
    | _ => simp only [Rep] at r; obtain ⟨p, xs, rfl, _⟩ := r; rfl
  · rfl
theorem opb_isN {K : PySem.W.Frag} : OpB K (fun x y H Q => y = .non ∧ Q (.bl (decide (x = .non))) H) oIsN := by
  intro S H Hf μ x y a b c Q so bx by_ e k
  unfold oIsN at e
  split at e
  · cases e
  next h =>
    cases e
    exact ⟨by_.non, k _ H Hf μ (Step.refl _ _ _) so (by simp only [Rep]; rw [isNon_of bx (fun w => h w)])⟩
  · cases e
theorem opb_notN {K : PySem.W.Frag} : OpB K (fun x y H Q => y = .non ∧ Q (.bl (!decide (x = .non))) H) oNotN := by
  intro S H Hf μ x y a b c Q so bx by_ e k
  unfold oNotN at e
  split at e
  · cases e
  next h =>
    cases e
    exact ⟨by_.non, k _ H Hf μ (Step.refl _ _ _) so (by simp only [Rep]; rw [isNon_of bx (fun w => h w)])⟩
  · cases e
/-- in: flat items of a list or a tuple; data in a list -/
def flatD : D → Bool
  | .non => true
  | .bl _ => true
  | .int _ => true
  | .str _ => true
  | _ => false
def vOf : D → V
  | .bl b => .bl b
  | .int i => .int i
  | .str s => .str s
  | _ => .non
theorem flat_rep {K : PySem.W.Frag} {Hf : Hp} {μ : List Addr} {x : V} {a : D} (h : flatD a = true) (r : Rep K μ Hf a x) : x = vOf a ∧ flatV x = true := by
  cases a <;> first | (cases h; done) | skip
  all_goals
    simp only [Rep] at r
    subst r
    exact ⟨rfl, rfl⟩
theorem flats_rep {K : PySem.W.Frag} {Hf : Hp} {μ : List Addr} : ∀ {xs : List V} {ds : List D}, ds.all flatD = true → RepL K μ Hf ds xs → xs = ds.map vOf ∧ xs.all flatV = true
  | xs, [], _, r => by simp only [RepL] at r; subst r; exact ⟨rfl, rfl⟩
  | xs, d :: ds, h, r => by
    simp only [RepL] at r
    obtain ⟨x, ys, rfl, q, rl⟩ := r
    rw [List.all_cons, Bool.and_eq_true] at h
    obtain ⟨h1, h2⟩ := flat_rep h.1 q
    obtain ⟨h3, h4⟩ := flats_rep h.2 rl
    subst h1
    subst h3
    refine ⟨rfl, ?_⟩
    rw [List.all_cons, Bool.and_eq_true]
    exact ⟨h2, h4⟩
def inData (S : Store) (a b : D) : Option Bool := match viewL S b with
  | some ds => if flatD a && ds.all flatD then some (inV (vOf a) (ds.map vOf)) else match pyS S a, pyS S b with
    | some p, some (.list qs) => if SeqAt.shaped p && SeqAt.shaped (.list qs) then some (qs.any fun z => PyData.eqv z p) else none
    | _, _ => none
  | none => none
theorem inData_cases {K : PySem.W.Frag} {S : Store} {H Hf : Hp} {μ : List Addr} {x y : V} {a b : D} {k : Bool} (so : StoOk K S H Hf μ) (bx : Bor K H Hf μ a x) (by_ : Bor K H Hf μ b y) (e : inData S a b = some k) :
    (∃ p xs, y = .ref p ∧ (SqL K H p xs ∨ SqT K H p xs) ∧ flatV x = true ∧ xs.all flatV = true ∧ k = inV x xs) ∨ ∃ d ds, Dp K H x d ∧ Dp K H y (.list ds) ∧ SeqAt.shaped d = true ∧ SeqAt.shaped (.list ds) = true ∧ k = ds.any fun z => PyData.eqv z d := by
  unfold inData at e
  split at e
  next ds hv =>
    split at e
    next h =>
      cases e
      rw [Bool.and_eq_true] at h
      obtain ⟨p, xs, rfl, hq, _, rl⟩ := viewL_ok so by_ hv
      obtain ⟨h1, h2⟩ := flats_rep h.2 rl
      have rx : Rep K μ Hf a x := by
        rcases bx with r | ⟨es, _, _, rfl, _⟩
        · exact r
        · exact absurd h.1 (by simp [flatD])
      obtain ⟨h3, h4⟩ := flat_rep h.1 rx
      subst h1
      subst h3
      exact .inl ⟨p, _, rfl, hq, h4, h2, rfl⟩
    · split at e
      next p qs e1 e2 =>
        split at e
        next h =>
          cases e
          rw [Bool.and_eq_true] at h
          exact .inr ⟨p, qs, bor_dp so bx e1, bor_dp so by_ e2, h.1, h.2, rfl⟩
        · cases e
      · cases e
  · cases e
def oIn : Op2 := fun S a b => (inData S a b).map .bl
def oNin : Op2 := fun S a b => (inData S a b).map fun k => .bl (!k)
theorem opb_in {K : PySem.W.Frag} : OpB K (fun x y H Q => rIn K false x y H Q ∨ rInD K x y H Q) oIn := by
  intro S H Hf μ x y a b c Q so bx by_ e k
  unfold oIn at e
  cases e2 : inData S a b with
  | none => rw [e2] at e; cases e
  | some t =>
    rw [e2] at e
    cases e
    rcases inData_cases so bx by_ e2 with ⟨p, xs, h1, h2, h3, h4, rfl⟩ | ⟨p, q, h1, h2, h3, h4, rfl⟩
    · exact .inl ⟨p, xs, h1, h2, h3, h4, k _ H Hf μ (Step.refl _ _ _) so (by simp [Rep])⟩
    · exact .inr ⟨p, q, h1, h2, h3, h4, k _ H Hf μ (Step.refl _ _ _) so (by simp only [Rep])⟩
theorem opb_nin {K : PySem.W.Frag} : OpB K (fun x y H Q => rIn K true x y H Q ∨ rNotInD K x y H Q) oNin := by
  intro S H Hf μ x y a b c Q so bx by_ e k
  unfold oNin at e
  cases e2 : inData S a b with
  | none => rw [e2] at e; cases e
  | some t =>
    rw [e2] at e
    cases e
    rcases inData_cases so bx by_ e2 with ⟨p, xs, h1, h2, h3, h4, rfl⟩ | ⟨p, q, h1, h2, h3, h4, rfl⟩
    · exact .inl ⟨p, xs, h1, h2, h3, h4, k _ H Hf μ (Step.refl _ _ _) so (by simp [Rep])⟩
    · exact .inr ⟨p, q, h1, h2, h3, h4, k _ H Hf μ (Step.refl _ _ _) so (by simp only [Rep])⟩
end DL
set_option Elab.async false
set_option linter.all false
set_option maxRecDepth 100000
/-! DLg: subscripts, slices, built-in calls. -/
namespace DL
open PySem PySem.Spec PyProof.Rows L2

/-! ### lists of values under V and under D at the same places -/
theorem RepL.atI {K : PySem.W.Frag} {μ : List Addr} {Hf : Hp} {ds : List D} {xs : List V} {i : Int} {d : D} (r : RepL K μ Hf ds xs) (h : L2.atI ds i = some d) : ∃ v, L2.atI xs i = some v ∧ Rep K μ Hf d v := by
  unfold L2.atI at h ⊢
  rw [r.length]
  cases e : ixN ds.length i with
  | none => rw [e] at h; cases h
  | some j =>
    rw [e] at h
    exact r.get h
def cutD (ds : List D) (lo hi : Option Int) : List D := (ds.drop (HT.sIx ds.length 0 lo)).take (HT.sIx ds.length ds.length hi - HT.sIx ds.length 0 lo)
theorem RepL.cut {K : PySem.W.Frag} {μ : List Addr} {Hf : Hp} {ds : List D} {xs : List V} {lo hi : Option Int} (r : RepL K μ Hf ds xs) : RepL K μ Hf (cutD ds lo hi) (cutV xs lo hi) := by
  unfold cutD cutV
  rw [r.length]
  exact RepL.take _ (RepL.drop _ r)
theorem cutD_length (ds : List D) (lo hi : Option Int) : (cutD ds lo hi).length ≤ ds.length := by
  unfold cutD
  rw [List.length_take, List.length_drop]
  omega
theorem cutD_whole {ds : List D} {lo hi : Option Int} (h : HT.sIx ds.length 0 lo = 0 ∧ HT.sIx ds.length ds.length hi = ds.length) : cutD ds lo hi = ds := by
  unfold cutD
  rw [h.1, h.2]
  simp

/-! ### subscripts -/
def oIx : Op2 := fun S a b => match b with
  | .int i => match a with
    | .str z => if z.length ≤ sizeLine then (L2.atI z.cps.toList i).map fun c => .str ⟨#[c]⟩ else none
    | a => match viewL S a with
      | some ds => L2.atI ds i
      | none => none
  | _ => none
theorem opb_ix {K : PySem.W.Frag} : OpB K (rIx K) oIx := by
  intro S H Hf μ x y a b c Q so bx by_ e k
  unfold oIx at e
  cases b <;> first | (cases e; done) | skip
  rename_i i
  have hy := by_.int
  subst hy
  by_cases hs : ∃ z, a = .str z
  · obtain ⟨z, rfl⟩ := hs
    simp only at e
    split at e
    next hz =>
      cases e2 : L2.atI z.cps.toList i with
      | none => rw [e2] at e; cases e
      | some ch =>
        rw [e2] at e
        cases e
        exact .inr (.inr ⟨z, i, ch, bx.str, rfl, hz, e2, k _ H Hf μ (Step.refl _ _ _) so (by simp only [Rep])⟩)
    · cases e
  · have e' : (match viewL S a with | some ds => L2.atI ds i | none => none) = some c := by
      cases a <;> first | exact e | exact absurd ⟨_, rfl⟩ hs
    cases e2 : viewL S a with
    | none => rw [e2] at e'; cases e'
    | some ds =>
      rw [e2] at e'
      obtain ⟨p, xs, rfl, hq, _, rl⟩ := viewL_ok so bx e2
      obtain ⟨v, h1, h2⟩ := rl.atI e'
      rcases hq with hq | hq
      · exact .inl ⟨p, xs, i, v, rfl, rfl, hq, h1, k _ H Hf μ (Step.refl _ _ _) so h2⟩
      · exact .inr (.inl ⟨p, xs, i, v, rfl, rfl, hq, h1, k _ H Hf μ (Step.refl _ _ _) so h2⟩)
section
variable {X : Cx} {W : WX} {a b : Expr} {fa fb : Ev D} {pos p2 : Pos}
theorem de_ix (ha : DB X W a fa) (hb : DB X W b fb) (hs : PlainIx b := by intro _ _; rfl) : DE X W (.Subscript a b pos) (eBin2 oIx fa fb) :=
  PE_imp (pe_ix ix_seq ha hb hs) fun _ _ _ => tE_bin2 opb_ix

/-! ### slices -/
def tO (K : PySem.W.Frag) (W : WX) (f : Ev (Option Int)) : TO := fun σ H Q => ∃ Γ S Hf μ, SlOk K Γ σ H Hf μ ∧ StoOk K S H Hf μ ∧ Out K (EqR (Option Int)) W σ H Hf μ (f Γ S) Q
abbrev DO (X : Cx) (W : WX) (e : Option Expr) (f : Ev (Option Int)) : Prop := PO X e (tO X.K W f)
theorem PO_imp {X : Cx} {e : Option Expr} {t t' : TO} (h : PO X e t) (k : ∀ σ H Q, t' σ H Q → t σ H Q) : PO X e t' := ⟨fun pins s σ H Q I hq => h.run pins s σ H Q I (k σ H Q hq)⟩
def pNo : Ev (Option Int) := fun _ S => .ok none S
def pAt (f : Ev D) : Ev (Option Int) := fun Γ S => (f Γ S).bind fun d S1 => match d with
  | .int i => .ok (some i) S1
  | _ => .no
theorem do_no : DO X W none pNo := PO_imp po_none fun σ H Q ⟨Γ, S, Hf, μ, sl, so, o⟩ => o none H Hf μ (Step.refl _ _ _) so rfl
theorem do_at (h : DB X W a fa) : DO X W (some a) (pAt fa) :=
  PO_imp (po_some h) fun σ H Q ⟨Γ, S, Hf, μ, sl, so, o⟩ => ⟨Γ, S, Hf, μ, sl, so, Out.bind sl rm_eq o fun d S1 v H1 Hf1 μ1 _ s1 sl1 so1 r1 o1 => by
    have bx := BorR.bor sl1 r1
    cases d with
    | int i => exact ⟨i, bx.int, o1 (some i) H1 Hf1 μ1 (Step.refl _ _ _) so1 rfl⟩
    | _ => exact o1.elim⟩
/-- the items of a list -/
def viewLs (S : Store) : D → Option (List D)
  | .lst ds => some ds
  | .kst ds => some ds
  | .loc n => match S[n]? with
    | some (.lst ds) => some ds
    | _ => none
  | _ => none
theorem viewLs_ok {K : PySem.W.Frag} {S : Store} {H Hf : Hp} {μ : List Addr} {d : D} {v : V} {ds : List D} (so : StoOk K S H Hf μ) (b : Bor K H Hf μ d v) (h : viewLs S d = some ds) :
    ∃ a xs, v = V.ref a ∧ SqL K H a xs ∧ xs.length ≤ sizeLine ∧ RepL K μ Hf ds xs := by
  cases d with
  | lst es =>
    cases h
    obtain ⟨a, xs, e, q, z, rl⟩ := b.lst so
    exact ⟨a, xs, e, SqL.of q, z, rl⟩
  | kst es =>
    cases h
    rcases b with r | ⟨_, _, _, z, _⟩
    · simp only [Rep] at r
      obtain ⟨a, xs, e, q, z, rl⟩ := r
      exact ⟨a, xs, e, so.sub.sl q, z, rl⟩
    · cases z
  | loc n =>
    rcases b with r | ⟨_, _, _, z, _⟩
    · simp only [Rep] at r
      obtain ⟨a, e, q⟩ := r
      have h : (match S[n]? with | some (.lst ds) => some ds | _ => none : Option (List D)) = some ds := h
      cases e2 : S[n]? with
      | none => rw [e2] at h; cases h
      | some o =>
        rw [e2] at h
        cases o with
        | lst es =>
          cases h
          obtain ⟨u, h1, ⟨xs, rfl, z, r⟩⟩ := so.ob n _ a e2 q
          exact ⟨a, xs, e, SqL.of h1, z, r⟩
        | _ => cases h
    · cases z
  | _ => cases h
def slD (S : Store) (a : D) (lo hi : Option Int) : Option D := match a with
  | .str z => if z.length ≤ sizeLine then some (.str (cutS z lo hi)) else none
  | .tup ds => some (.tup (cutD ds lo hi))
  | a => (viewLs S a).map fun ds => .lst (cutD ds lo hi)
def eSl (f : Ev D) (lo hi : Ev (Option Int)) : Ev D := fun Γ S => (f Γ S).bind fun d S1 => (lo Γ S1).bind fun l S2 => (hi Γ S2).bind fun u S3 => match slD S3 d l u with
  | some z => .ok z S3
  | none => .no
def nSl (f : Ev D) (lo hi : Ev (Option Int)) : Ev SO := fun Γ S => (f Γ S).bind fun d S1 => (lo Γ S1).bind fun l S2 => (hi Γ S2).bind fun u S3 => match viewLs S3 d with
  | some ds => .ok (.lst (cutD ds l u)) S3
  | none => .no
def rSl3 (K : PySem.W.Frag) : V → Option Int → Option Int → Hp → VK → Prop := fun x lo hi H Q => (rSlL K x lo hi H Q ∨ rSlA K x lo hi H Q) ∨ rSlS x lo hi H Q
theorem slR3 : SlR X (rSl3 X.K) := (sl_list.or sl_tupA).or sl_str
theorem tE_sl {K : PySem.W.Frag} {fl fu : Ev (Option Int)} {σ : L2.St} {H : Hp} {Q : VK} (q : tE K W (eSl fa fl fu) σ H Q) : tSl (rSl3 K) (tBo K W fa) (tO K W fl) (tO K W fu) σ H Q := by
  obtain ⟨Γ, S, Hf, μ, sl, so, o⟩ := q
  refine ⟨Γ, S, Hf, μ, sl, so, Out.bind sl rm_rep o fun d S1 x H1 Hf1 μ1 _ s1 sl1 so1 r1 o1 => ?_⟩
  refine ⟨Γ, S1, Hf1, μ1, sl1, so1, Out.bind sl1 rm_rep o1 fun l S2 l' H2 Hf2 μ2 _ s2 sl2 so2 el o2 => ?_⟩
  obtain rfl : l = l' := el
  refine ⟨Γ, S2, Hf2, μ2, sl2, so2, Out.bind sl2 rm_rep o2 fun u S3 u' H3 Hf3 μ3 _ s3 sl3 so3 eu o3 => ?_⟩
  obtain rfl : u = u' := eu
  cases e : slD S3 d l u with
  | none => rw [e] at o3; exact o3.elim
  | some z =>
    rw [e] at o3
    have bx : Bor K H3 Hf3 μ3 d x := BorR.bor sl3 (BorR.keep (H0' := H) s3 (BorR.keep (H0' := H) s2 r1))
    have key : ∀ ds, viewLs S3 d = some ds → z = .lst (cutD ds l u) → rSl3 K x l u H3 Q := fun ds e2 ez => by
      subst ez
      obtain ⟨p, xs, rfl, hq, hz, rl⟩ := viewLs_ok so3 bx e2
      refine .inl (.inl ⟨p, xs, rfl, hq, fun q hq' => ?_⟩)
      obtain ⟨st, so4⟩ := Step.lay (u := .lst (cutV xs l u)) so3 hq'
      refine o3 _ _ _ μ3 st so4 ?_
      simp only [Rep]
      exact ⟨q, _, rfl, upd_same, Nat.le_trans (cutV_length xs l u) hz, (st.repL rl).cut⟩
    cases d with
    | str y =>
      have e : (if y.length ≤ sizeLine then some (D.str (cutS y l u)) else none) = some z := e
      split at e
      next hz =>
        cases e
        exact .inr ⟨y, bx.str, hz, o3 _ H3 Hf3 μ3 (Step.refl _ _ _) so3 (by simp only [Rep])⟩
      · cases e
    | tup ds =>
      cases e
      obtain ⟨p, xs, rfl, hq, hz, rl⟩ := bx.tup
      refine .inl (.inr ⟨p, xs, rfl, so3.sub.tp hq, fun h => ?_, fun h q hq' => ?_⟩)
      · refine o3 _ H3 Hf3 μ3 (Step.refl _ _ _) so3 ?_
        rw [rl.length] at h
        rw [cutD_whole h]
        simp only [Rep]
        exact ⟨p, xs, rfl, hq, hz, rl⟩
      · obtain ⟨st, so4⟩ := Step.lay (u := .tup (cutV xs l u)) so3 hq'
        refine o3 _ _ _ μ3 st so4 ?_
        simp only [Rep]
        exact ⟨q, _, rfl, upd_same, Nat.le_trans (cutV_length xs l u) hz, (st.repL rl).cut⟩
    | lst ds => cases e; exact key ds rfl rfl
    | kst ds => cases e; exact key ds rfl rfl
    | loc n =>
      have e : (viewLs S3 (.loc n)).map (fun ds => D.lst (cutD ds l u)) = some z := e
      cases e2 : viewLs S3 (.loc n) with
      | none => rw [e2] at e; cases e
      | some ds => rw [e2] at e; cases e; exact key ds e2 rfl
    | _ => cases e
theorem tN_sl {K : PySem.W.Frag} {fl fu : Ev (Option Int)} {σ : L2.St} {H : Hp} {Q : VK} (q : tN K W (nSl fa fl fu) σ H Q) : tSl (rSl3 K) (tBo K W fa) (tO K W fl) (tO K W fu) σ H Q := by
  obtain ⟨Γ, S, Hf, μ, sl, so, o⟩ := q
  refine ⟨Γ, S, Hf, μ, sl, so, Out.bind sl rm_new o fun d S1 x H1 Hf1 μ1 _ s1 sl1 so1 r1 o1 => ?_⟩
  refine ⟨Γ, S1, Hf1, μ1, sl1, so1, Out.bind sl1 rm_new o1 fun l S2 l' H2 Hf2 μ2 _ s2 sl2 so2 el o2 => ?_⟩
  obtain rfl : l = l' := el
  refine ⟨Γ, S2, Hf2, μ2, sl2, so2, Out.bind sl2 rm_new o2 fun u S3 u' H3 Hf3 μ3 _ s3 sl3 so3 eu o3 => ?_⟩
  obtain rfl : u = u' := eu
  cases e2 : viewLs S3 d with
  | none => rw [e2] at o3; exact o3.elim
  | some ds =>
    rw [e2] at o3
    obtain ⟨p, xs, rfl, hq, hz, rl⟩ := viewLs_ok so3 (BorR.bor sl3 (BorR.keep (H0' := H) s3 (BorR.keep (H0' := H) s2 r1))) e2
    refine .inl (.inl ⟨p, xs, rfl, hq, fun q hq' => ?_⟩)
    obtain ⟨st, so4, hf, hm⟩ := Step.layN (u := .lst (cutV xs l u)) so3 hq'
    exact o3 _ _ _ μ3 st so4 ⟨q, _, rfl, hq', upd_same, ⟨_, rfl, Nat.le_trans (cutV_length xs l u) hz, rl.cut⟩, hf, hm⟩
variable {lo hi : Option Expr} {fl fu : Ev (Option Int)}
theorem de_sl (ha : DB X W a fa) (hl : DO X W lo fl) (hu : DO X W hi fu) : DE X W (.Subscript a (.Slice lo hi none p2) pos) (eSl fa fl fu) := PE_imp (pe_slice slR3 ha hl hu) fun _ _ _ => tE_sl
theorem dn_sl (ha : DB X W a fa) (hl : DO X W lo fl) (hu : DO X W hi fu) : DN X W (.Subscript a (.Slice lo hi none p2) pos) (nSl fa fl fu) := PE_imp (pe_slice slR3 ha hl hu) fun _ _ _ => tN_sl
end

/-! ### arguments that are used at once -/
def BorL (K : PySem.W.Frag) (H Hf : Hp) (μ : List Addr) : List D → List V → Prop
  | [], vs => vs = []
  | d :: ds, vs => ∃ x r, vs = x :: r ∧ Bor K H Hf μ d x ∧ BorL K H Hf μ ds r
def BorLR (K : PySem.W.Frag) (σ : L2.St) (Γ : Gm) : RR (List D) (List V) := fun _ H Hf μ ds vs => Paired (fun d v => BorR K σ Γ H H Hf μ d v) ds vs
theorem rm_borL {K : PySem.W.Frag} {σ : L2.St} {Γ : Gm} : RMono (BorLR K σ Γ) := fun _ _ _ _ _ _ _ _ h => h
theorem borL_of {K : PySem.W.Frag} {Γ : Gm} {σ : L2.St} {H Hf : Hp} {μ : List Addr} (sl : SlOk K Γ σ H Hf μ) : ∀ {ds : List D} {vs : List V}, Paired (fun d v => BorR K σ Γ H H Hf μ d v) ds vs → BorL K H Hf μ ds vs
  | _, _, .nil => rfl
  | _, _, .cons h t => ⟨_, _, rfl, BorR.bor sl h, borL_of sl t⟩
def tAb (K : PySem.W.Frag) (W : WX) (f : Ev (List D)) : TA := fun σ H Q => ∃ Γ S Hf μ, SlOk K Γ σ H Hf μ ∧ StoOk K S H Hf μ ∧ Out K (BorLR K σ Γ) W σ H Hf μ (f Γ S) Q
abbrev DAb (X : Cx) (W : WX) (es : List Expr) (f : Ev (List D)) : Prop := PA X es (tAb X.K W f)
section
variable {X : Cx} {W : WX} {e : Expr} {es : List Expr} {f : Ev D} {g : Ev (List D)}
theorem dab_nil : DAb X W [] aNil := PA_imp pa_nil fun σ H Q ⟨Γ, S, Hf, μ, sl, so, o⟩ => o [] H Hf μ (Step.refl _ _ _) so .nil
theorem dab_cons (h : DB X W e f) (k : DAb X W es g) (hs : starEach (e :: es) X.env = (false, eval e X.env) :: starEach es X.env := by rfl) : DAb X W (e :: es) (aCons f g) :=
  PA_imp (pa_cons h k hs) fun σ H Q ⟨Γ, S, Hf, μ, sl, so, o⟩ => ⟨Γ, S, Hf, μ, sl, so, Out.bind sl rm_borL o fun d S1 v H1 Hf1 μ1 _ s1 sl1 so1 r1 o1 =>
    ⟨Γ, S1, Hf1, μ1, sl1, so1, Out.bind sl1 rm_borL o1 fun ds S2 vs H2 Hf2 μ2 _ s2 sl2 so2 r2 o2 => o2 (v :: vs) H2 Hf2 μ2 (Step.refl _ _ _) so2 (.cons (BorR.keep (H0' := H2) s2 r1) r2)⟩⟩
end
abbrev OpN := Store → List D → Option D
def eFn (op : OpN) (g : Ev (List D)) : Ev D := fun Γ S => (g Γ S).bind fun ds S1 => match op S1 ds with
  | some z => .ok z S1
  | none => .no
def nFn (op : Store → List D → Option SO) (g : Ev (List D)) : Ev SO := fun Γ S => (g Γ S).bind fun ds S1 => match op S1 ds with
  | some z => .ok z S1
  | none => .no
def CallB (K : PySem.W.Frag) (r : List V → Hp → VK → Prop) (op : OpN) : Prop := ∀ (S : Store) (H Hf : Hp) (μ : List Addr) (vs : List V) (ds : List D) (c : D) (Q : VK), StoOk K S H Hf μ → BorL K H Hf μ ds vs → op S ds = some c →
  (∀ v H' Hf' μ', Step H Hf μ H' Hf' μ' → StoOk K S H' Hf' μ' → Rep K μ' Hf' c v → Q v H') → r vs H Q
def CallN (K : PySem.W.Frag) (r : List V → Hp → VK → Prop) (op : Store → List D → Option SO) : Prop := ∀ (S : Store) (H Hf : Hp) (μ : List Addr) (vs : List V) (ds : List D) (c : SO) (Q : VK), StoOk K S H Hf μ → BorL K H Hf μ ds vs → op S ds = some c →
  (∀ v H' Hf' μ', Step H Hf μ H' Hf' μ' → StoOk K S H' Hf' μ' → NewR K H H' Hf' μ' c v → Q v H') → r vs H Q
section
variable {X : Cx} {W : WX} {e : Expr} {es : List Expr} {g : Ev (List D)} {p pos : Pos} {x : PySem.Str} {id T : String} {r : List V → Hp → VK → Prop} {op : OpN} {opn : Store → List D → Option SO}
theorem tE_fn {K : PySem.W.Frag} (hop : CallB K r op) {σ : L2.St} {H : Hp} {Q : VK} (q : tE K W (eFn op g) σ H Q) : tCB r (tAb K W g) σ H Q := by
  obtain ⟨Γ, S, Hf, μ, sl, so, o⟩ := q
  refine ⟨Γ, S, Hf, μ, sl, so, Out.bind sl rm_rep o fun ds S1 vs H1 Hf1 μ1 _ s1 sl1 so1 r1 o1 => ?_⟩
  cases e : op S1 ds with
  | none => rw [e] at o1; exact o1.elim
  | some z => rw [e] at o1; exact hop S1 H1 Hf1 μ1 vs ds z Q so1 (borL_of sl1 r1) e o1
theorem tN_fn {K : PySem.W.Frag} (hop : CallN K r opn) {σ : L2.St} {H : Hp} {Q : VK} (q : tN K W (nFn opn g) σ H Q) : tCB r (tAb K W g) σ H Q := by
  obtain ⟨Γ, S, Hf, μ, sl, so, o⟩ := q
  refine ⟨Γ, S, Hf, μ, sl, so, Out.bind sl rm_new o fun ds S1 vs H1 Hf1 μ1 _ s1 sl1 so1 r1 o1 => ?_⟩
  cases e : opn S1 ds with
  | none => rw [e] at o1; exact o1.elim
  | some z => rw [e] at o1; exact hop S1 H1 Hf1 μ1 vs ds z Q so1 (borL_of sl1 r1) e o1
theorem de_bi (hc : CallR X (.builtin id) r) (hop : CallB X.K r op) (hg : Gl X x) (hm : X.mg x = none) (hv : bootBuiltins x = some (.builtin id)) (ha : DAb X W (e :: es) g) (hn : x ≠ "__name__" := by decide) (hdb : (x == ("__debug__" : PySem.Str)) = false := by decide)
    (he : starEach (e :: es) X.env = (false, eval e X.env) :: starEach es X.env := by rfl) (hpl : (backTo pos (starEach es X.env)).any (·.1) = false := by rfl) : DE X W (.Call (.Name x p) (e :: es) [] pos) (eFn op g) :=
  PE_imp (pe_callB hc hg hm hv ha hn hdb he hpl) fun _ _ _ => tE_fn hop
theorem de_ty (hc : CallR X (.type T) r) (hop : CallB X.K r op) (hg : Gl X x) (hm : X.mg x = none) (hv : bootBuiltins x = some (.type T)) (ha : DAb X W (e :: es) g) (hn : x ≠ "__name__" := by decide) (hdb : (x == ("__debug__" : PySem.Str)) = false := by decide)
    (he : starEach (e :: es) X.env = (false, eval e X.env) :: starEach es X.env := by rfl) (hpl : (backTo pos (starEach es X.env)).any (·.1) = false := by rfl) : DE X W (.Call (.Name x p) (e :: es) [] pos) (eFn op g) :=
  PE_imp (pe_callTy hc hg hm hv ha hn hdb he hpl) fun _ _ _ => tE_fn hop
theorem dn_bi (hc : CallR X (.builtin id) r) (hop : CallN X.K r opn) (hg : Gl X x) (hm : X.mg x = none) (hv : bootBuiltins x = some (.builtin id)) (ha : DAb X W (e :: es) g) (hn : x ≠ "__name__" := by decide) (hdb : (x == ("__debug__" : PySem.Str)) = false := by decide)
    (he : starEach (e :: es) X.env = (false, eval e X.env) :: starEach es X.env := by rfl) (hpl : (backTo pos (starEach es X.env)).any (·.1) = false := by rfl) : DN X W (.Call (.Name x p) (e :: es) [] pos) (nFn opn g) :=
  PE_imp (pe_callB hc hg hm hv ha hn hdb he hpl) fun _ _ _ => tN_fn hop
theorem dn_ty (hc : CallR X (.type T) r) (hop : CallN X.K r opn) (hg : Gl X x) (hm : X.mg x = none) (hv : bootBuiltins x = some (.type T)) (ha : DAb X W (e :: es) g) (hn : x ≠ "__name__" := by decide) (hdb : (x == ("__debug__" : PySem.Str)) = false := by decide)
    (he : starEach (e :: es) X.env = (false, eval e X.env) :: starEach es X.env := by rfl) (hpl : (backTo pos (starEach es X.env)).any (·.1) = false := by rfl) : DN X W (.Call (.Name x p) (e :: es) [] pos) (nFn opn g) :=
  PE_imp (pe_callTy hc hg hm hv ha hn hdb he hpl) fun _ _ _ => tN_fn hop
end

/-! ### the built-ins -/
section
variable {K : PySem.W.Frag}
theorem BorL.one {H Hf : Hp} {μ : List Addr} {d : D} {vs : List V} (b : BorL K H Hf μ [d] vs) : ∃ x, vs = [x] ∧ Bor K H Hf μ d x := by
  obtain ⟨x, r, rfl, h, e⟩ := b
  exact ⟨x, by rw [show r = [] from e], h⟩
theorem BorL.two {H Hf : Hp} {μ : List Addr} {d d' : D} {vs : List V} (b : BorL K H Hf μ [d, d'] vs) : ∃ x y, vs = [x, y] ∧ Bor K H Hf μ d x ∧ Bor K H Hf μ d' y := by
  obtain ⟨x, r, rfl, h, k⟩ := b
  obtain ⟨y, rfl, h2⟩ := BorL.one k
  exact ⟨x, y, rfl, h, h2⟩
/-- one argument -/
def op1 (f : Store → D → Option D) : OpN := fun S ds => match ds with
  | [d] => f S d
  | _ => none
def op2 (f : Store → D → D → Option D) : OpN := fun S ds => match ds with
  | [d, c] => f S d c
  | _ => none
theorem callB_one {r : List V → Hp → VK → Prop} {f : Store → D → Option D} (h : ∀ (S : Store) (H Hf : Hp) (μ : List Addr) (x : V) (d c : D) (Q : VK), StoOk K S H Hf μ → Bor K H Hf μ d x → f S d = some c →
    (∀ v H' Hf' μ', Step H Hf μ H' Hf' μ' → StoOk K S H' Hf' μ' → Rep K μ' Hf' c v → Q v H') → r [x] H Q) : CallB K r (op1 f) := by
  intro S H Hf μ vs ds c Q so b e k
  unfold op1 at e
  split at e
  · obtain ⟨x, rfl, bx⟩ := b.one
    exact h S H Hf μ x _ c Q so bx e k
  · cases e
theorem callB_two {r : List V → Hp → VK → Prop} {f : Store → D → D → Option D} (h : ∀ (S : Store) (H Hf : Hp) (μ : List Addr) (x y : V) (d d' c : D) (Q : VK), StoOk K S H Hf μ → Bor K H Hf μ d x → Bor K H Hf μ d' y → f S d d' = some c →
    (∀ v H' Hf' μ', Step H Hf μ H' Hf' μ' → StoOk K S H' Hf' μ' → Rep K μ' Hf' c v → Q v H') → r [x, y] H Q) : CallB K r (op2 f) := by
  intro S H Hf μ vs ds c Q so b e k
  unfold op2 at e
  split at e
  · obtain ⟨x, y, rfl, bx, by_⟩ := b.two
    exact h S H Hf μ x y _ _ c Q so bx by_ e k
  · cases e
/-- len -/
def lenD (S : Store) (d : D) : Option D := match d with
  | .str y => if y.length ≤ sizeLine then some (.int (y.length : Nat)) else none
  | d => (viewL S d).map fun ds => .int (ds.length : Nat)
def bLen : OpN := op1 lenD
theorem cb_len : CallB K (fun xs H Q => ∃ x n, xs = [x] ∧ LenV K x H n ∧ Q (.int n) H) bLen := callB_one fun S H Hf μ x d c Q so bx e k => by
  have key : ∀ ds, viewL S d = some ds → c = .int (ds.length : Nat) → ∃ x' n, [x] = [x'] ∧ LenV K x' H n ∧ Q (.int n) H := fun ds e2 ec => by
    subst ec
    obtain ⟨p, xs, rfl, hq, _, rl⟩ := viewL_ok so bx e2
    refine ⟨.ref p, xs.length, rfl, ?_, ?_⟩
    · exact hq.elim (fun q => .inl ⟨xs, q, rfl⟩) fun q => .inr ⟨xs, q, rfl⟩
    · rw [rl.length]
      exact k _ H Hf μ (Step.refl _ _ _) so (by simp only [Rep])
  by_cases hs : ∃ y, d = .str y
  · obtain ⟨y, rfl⟩ := hs
    have e : (if y.length ≤ sizeLine then some (D.int (y.length : Nat)) else none) = some c := e
    split at e
    next hz => cases e; exact ⟨x, y.length, rfl, by rw [bx.str]; exact ⟨hz, rfl⟩, k _ H Hf μ (Step.refl _ _ _) so (by simp only [Rep])⟩
    · cases e
  · have e' : (viewL S d).map (fun ds => D.int (ds.length : Nat)) = some c := by
      cases d <;> first | exact e | exact absurd ⟨_, rfl⟩ hs
    cases e2 : viewL S d with
    | none => rw [e2] at e'; cases e'
    | some ds => rw [e2] at e'; cases e'; exact key ds e2 rfl
/-- abs, int -/
def bAbs : OpN := op1 fun _ d => match d with
  | .int i => some (.int (if i < 0 then -i else i))
  | _ => none
theorem cb_abs : CallB K (fun xs H Q => ∃ i, xs = [.int i] ∧ Q (.int (if i < 0 then -i else i)) H) bAbs := callB_one fun S H Hf μ x d c Q so bx e k => by
  cases d <;> first | (cases e; done) | skip
  cases e
  exact ⟨_, by rw [bx.int], k _ H Hf μ (Step.refl _ _ _) so (by simp only [Rep])⟩
def bInt : OpN := op1 fun _ d => match d with
  | .int i => some (.int i)
  | .bl b => some (.int (if b then 1 else 0))
  | _ => none
theorem cb_int : CallB K (fun xs H Q => (∃ i, xs = [.int i] ∧ Q (.int i) H) ∨ ∃ k, xs = [.bl k] ∧ Q (.int (if k then 1 else 0)) H) bInt := callB_one fun S H Hf μ x d c Q so bx e k => by
  cases d <;> first | (cases e; done) | skip
  · cases e
    exact .inr ⟨_, by rw [bx.bl], k _ H Hf μ (Step.refl _ _ _) so (by simp only [Rep])⟩
  · cases e
    exact .inl ⟨_, by rw [bx.int], k _ H Hf μ (Step.refl _ _ _) so (by simp only [Rep])⟩
/-- max, min of two; divmod -/
def bMax2 : OpN := op2 fun _ a b => match a, b with
  | .int i, .int j => some (.int (if j > i then j else i))
  | _, _ => none
theorem cb_max2 : CallB K (fun xs H Q => ∃ i j, xs = [.int i, .int j] ∧ Q (.int (if j > i then j else i)) H) bMax2 := callB_two fun S H Hf μ x y d d' c Q so bx by_ e k => by
  cases d <;> first | (cases e; done) | skip
  cases d' <;> first | (cases e; done) | skip
  cases e
  exact ⟨_, _, by rw [bx.int, by_.int], k _ H Hf μ (Step.refl _ _ _) so (by simp only [Rep])⟩
def bMin2 : OpN := op2 fun _ a b => match a, b with
  | .int i, .int j => some (.int (if j < i then j else i))
  | _, _ => none
theorem cb_min2 : CallB K (fun xs H Q => ∃ i j, xs = [.int i, .int j] ∧ Q (.int (if j < i then j else i)) H) bMin2 := callB_two fun S H Hf μ x y d d' c Q so bx by_ e k => by
  cases d <;> first | (cases e; done) | skip
  cases d' <;> first | (cases e; done) | skip
  cases e
  exact ⟨_, _, by rw [bx.int, by_.int], k _ H Hf μ (Step.refl _ _ _) so (by simp only [Rep])⟩
def bDm : OpN := op2 fun _ a b => match a, b with
  | .int i, .int j => if divOk i j then some (.tup [.int (i / j), .int (i % j)]) else none
  | _, _ => none
theorem cb_dm : CallB K (fun xs H Q => ∃ i j, xs = [.int i, .int j] ∧ CDiv i j ∧ ∀ p, H p = none → Q (.ref p) (upd H p (.tup [.int (i / j), .int (i % j)]))) bDm := callB_two fun S H Hf μ x y d d' c Q so bx by_ e k => by
  cases d <;> first | (cases e; done) | skip
  cases d' <;> first | (cases e; done) | skip
  rename_i i j
  have e : (if divOk i j then some (D.tup [.int (i / j), .int (i % j)]) else none) = some c := e
  split at e
  next h =>
    cases e
    refine ⟨i, j, by rw [bx.int, by_.int], by simpa [divOk, CDiv] using h, fun p hp => ?_⟩
    obtain ⟨st, so2⟩ := Step.lay (u := .tup [.int (i / j), .int (i % j)]) so hp
    refine k _ _ _ μ st so2 ?_
    simp only [Rep]
    exact ⟨p, _, rfl, upd_same, by show 2 ≤ sizeLine; rw [sizeLine_eq]; decide, RepL.cons (by simp only [Rep]) (RepL.cons (by simp only [Rep]) RepL.nil)⟩
  · cases e
/-- all, any, sum of a list -/
def blsOf : List D → Option (List Bool)
  | [] => some []
  | .bl i :: ds => (blsOf ds).map (i :: ·)
  | _ => none
theorem bls_of {μ : List Addr} {Hf : Hp} : ∀ {ds : List D} {vs : List V} {ns : List Bool}, RepL K μ Hf ds vs → blsOf ds = some ns → vs = ns.map V.bl
  | [], vs, ns, r, e => by simp only [RepL] at r; simp only [blsOf, Option.some.injEq] at e; subst r e; rfl
  | d :: ds, vs, ns, r, e => by
    simp only [RepL] at r
    obtain ⟨x, xs, rfl, q, rl⟩ := r
    cases d <;> first | (simp [blsOf] at e; done) | skip
    rename_i i
    simp only [blsOf] at e
    cases e2 : blsOf ds with
    | none => rw [e2] at e; cases e
    | some ms =>
      rw [e2] at e
      cases e
      simp only [Rep] at q
      subst q
      rw [bls_of rl e2]
      rfl
def bAll : OpN := op1 fun S d => ((viewLs S d).bind blsOf).map fun bs => .bl (bs.all id)
def bAny : OpN := op1 fun S d => ((viewLs S d).bind blsOf).map fun bs => .bl (bs.any id)
def bSum : OpN := op1 fun S d => ((viewLs S d).bind intsOf).map fun ns => .int ns.sum
theorem map_bind {α β γ : Type} {o : Option α} {f : α → Option β} {g : β → γ} {c : γ} (h : (o.bind f).map g = some c) : ∃ a b, o = some a ∧ f a = some b ∧ c = g b := by
  cases o with
  | none => cases h
  | some a =>
    cases e : f a with
    | none => simp [e] at h
    | some b => exact ⟨a, b, rfl, e, by simpa [e] using h.symm⟩
theorem cb_all : CallB K (rAll K) bAll := callB_one fun S H Hf μ x d c Q so bx e k => by
  obtain ⟨ds, bs, e1, e2, rfl⟩ := map_bind e
  obtain ⟨p, xs, rfl, hq, _, rl⟩ := viewLs_ok so bx e1
  have hx := bls_of rl e2
  subst hx
  exact ⟨p, bs, rfl, hq, k _ H Hf μ (Step.refl _ _ _) so (by simp only [Rep])⟩
theorem cb_any : CallB K (rAny K) bAny := callB_one fun S H Hf μ x d c Q so bx e k => by
  obtain ⟨ds, bs, e1, e2, rfl⟩ := map_bind e
  obtain ⟨p, xs, rfl, hq, _, rl⟩ := viewLs_ok so bx e1
  have hx := bls_of rl e2
  subst hx
  exact ⟨p, bs, rfl, hq, k _ H Hf μ (Step.refl _ _ _) so (by simp only [Rep])⟩
theorem cb_sum : CallB K (rSum K) bSum := callB_one fun S H Hf μ x d c Q so bx e k => by
  obtain ⟨ds, bs, e1, e2, rfl⟩ := map_bind e
  obtain ⟨p, xs, rfl, hq, _, rl⟩ := viewLs_ok so bx e1
  have hx := ints_of rl e2
  subst hx
  exact ⟨p, bs, rfl, hq, k _ H Hf μ (Step.refl _ _ _) so (by simp only [Rep])⟩
/-- tuple(x), list(x) of a list or a tuple -/
def bTup : OpN := op1 fun S d => match d with
  | .tup ds => some (.tup ds)
  | d => (viewLs S d).map .tup
theorem cb_tup : CallB K (fun xs H Q => ∃ p ys, xs = [.ref p] ∧ ((SqL K H p ys ∧ ∀ l, H l = none → Q (.ref l) (upd H l (.tup ys))) ∨ (SqT K H p ys ∧ Q (.ref p) H))) bTup := callB_one fun S H Hf μ x d c Q so bx e k => by
  by_cases hs : ∃ y, d = .tup y
  · obtain ⟨ds, rfl⟩ := hs
    cases e
    obtain ⟨p, xs, rfl, hq, hz, rl⟩ := bx.tup
    exact ⟨p, xs, rfl, .inr ⟨so.sub.tp hq, k _ H Hf μ (Step.refl _ _ _) so (by simp only [Rep]; exact ⟨p, xs, rfl, hq, hz, rl⟩)⟩⟩
  · have e' : (viewLs S d).map D.tup = some c := by
      cases d <;> first | exact e | exact absurd ⟨_, rfl⟩ hs
    cases e2 : viewLs S d with
    | none => rw [e2] at e'; cases e'
    | some ds =>
      rw [e2] at e'
      cases e'
      obtain ⟨p, xs, rfl, hq, hz, rl⟩ := viewLs_ok so bx e2
      refine ⟨p, xs, rfl, .inl ⟨hq, fun l hl => ?_⟩⟩
      obtain ⟨st, so2⟩ := Step.lay (u := .tup xs) so hl
      exact k _ _ _ μ st so2 (by simp only [Rep]; exact ⟨l, xs, rfl, upd_same, hz, st.repL rl⟩)
def bLst : Store → List D → Option SO := fun S ds => match ds with
  | [d] => (viewL S d).map .lst
  | _ => none
theorem cn_lst : CallN K (fun xs H Q => ∃ p ys, xs = [.ref p] ∧ (SqL K H p ys ∨ SqT K H p ys) ∧ ∀ l, H l = none → Q (.ref l) (upd H l (.lst ys))) bLst := by
  intro S H Hf μ vs ds c Q so b e k
  unfold bLst at e
  split at e
  · rename_i d
    obtain ⟨x, rfl, bx⟩ := b.one
    cases e2 : viewL S d with
    | none => rw [e2] at e; cases e
    | some es =>
      rw [e2] at e
      cases e
      obtain ⟨p, xs, rfl, hq, hz, rl⟩ := viewL_ok so bx e2
      refine ⟨p, xs, rfl, hq, fun l hl => ?_⟩
      obtain ⟨st, so2, hf, hm⟩ := Step.layN (u := .lst xs) so hl
      exact k _ _ _ μ st so2 ⟨l, _, rfl, hl, upd_same, ⟨xs, rfl, hz, rl⟩, hf, hm⟩
  · cases e
end
section
variable {X : Cx} {W : WX} {a b e : Expr} {es : List Expr} {fa fb : Ev D} {g : Ev (List D)} {p p' pos : Pos}
/-- list(range(a)), list(range(a, b)) -/
def rgOk (a b : Int) : Bool := decide (-(2 ^ 62) ≤ a) && decide (a < 2 ^ 62) && decide (-(2 ^ 62) ≤ b) && decide (b < 2 ^ 62) && decide ((b - a).toNat ≤ 2 ^ 24)
def nRg1 (f : Ev D) : Ev SO := fun Γ S => (f Γ S).bind fun x S1 => match x with
  | .int n => if rgOk 0 n then .ok (.lst (rngD 0 n.toNat)) S1 else .no
  | _ => .no
def nRg2 (f g : Ev D) : Ev SO := fun Γ S => (f Γ S).bind fun x S1 => (g Γ S1).bind fun y S2 => match x, y with
  | .int m, .int n => if rgOk m n then .ok (.lst (rngD m (n - m).toNat)) S2 else .no
  | _, _ => .no
theorem repL_rg {K : PySem.W.Frag} {μ : List Addr} {Hf : Hp} (lo : Int) : ∀ (l : List Nat), RepL K μ Hf (l.map fun i => .int (lo + (i : Nat))) (l.map fun i => V.int (lo + (i : Nat)))
  | [] => RepL.nil
  | i :: l => RepL.cons (by simp only [Rep]) (repL_rg lo l)
theorem fin_rg {K : PySem.W.Frag} {S1 : Store} {H H1 Hf1 : Hp} {μ1 : List Addr} {σ : L2.St} {Q : VK} {m n : Int} (h : rgOk m n = true) (so1 : StoOk K S1 H1 Hf1 μ1)
    (o1 : Out K (NewR K) W σ H1 Hf1 μ1 (.ok (.lst (rngD m (n - m).toNat)) S1) Q) : RgOk m n ∧ ∀ q, H1 q = none → Q (.ref q) (upd H1 q (.lst (rgV m n))) := by
  simp only [rgOk, Bool.and_eq_true, decide_eq_true_eq] at h
  obtain ⟨⟨⟨⟨h1, h2⟩, h3⟩, h4⟩, h5⟩ := h
  refine ⟨⟨h1, h2, h3, h4, h5⟩, fun q hq => ?_⟩
  obtain ⟨st, so2, hf, hm⟩ := Step.layN (u := .lst (rgV m n)) so1 hq
  refine o1 _ _ _ μ1 st so2 ⟨q, _, rfl, hq, upd_same, ⟨_, rfl, ?_, ?_⟩, hf, hm⟩
  · rw [rgV_length, sizeLine_eq]; omega
  · exact repL_rg m _
theorem dn_rg1 {rp rpos : Pos} (hc : X.calm = true) (hgl : Gl X "list") (hml : X.mg "list" = none) (hg : Gl X "range") (hm : X.mg "range" = none) (ha : DB X W a fa) (na : starEach [a] X.env = (false, eval a X.env) :: starEach [] X.env := by rfl)
    (nl : starEach [.Call (.Name "range" rp) [a] [] rpos] X.env = (false, eval (.Call (.Name "range" rp) [a] [] rpos) X.env) :: starEach [] X.env := by rfl) : DN X W (.Call (.Name "list" p) [.Call (.Name "range" rp) [a] [] rpos] [] pos) (nRg1 fa) :=
  PE_imp (pe_listRg hc hgl hml (prg_1 hg hm ha na) nl) fun σ H Q ⟨Γ, S, Hf, μ, sl, so, o⟩ => ⟨Γ, S, Hf, μ, sl, so, Out.bind sl rm_new o fun d S1 v H1 Hf1 μ1 _ s1 sl1 so1 r1 o1 => by
    have bx := BorR.bor sl1 r1
    cases d <;> first | exact o1.elim | skip
    rename_i n _
    refine ⟨n, bx.int, ?_⟩
    have o1 : Out X.K (NewR X.K) W σ H1 Hf1 μ1 (if rgOk 0 n then .ok (.lst (rngD 0 n.toNat)) S1 else .no) Q := o1
    split at o1
    next h => exact fin_rg (H := H) h so1 (by rw [Int.sub_zero]; exact o1)
    · exact o1.elim⟩
theorem dn_rg2 {rp rpos : Pos} (hc : X.calm = true) (hgl : Gl X "list") (hml : X.mg "list" = none) (hg : Gl X "range") (hm : X.mg "range" = none) (ha : DB X W a fa) (hb : DB X W b fb) (na : starEach [a, b] X.env = (false, eval a X.env) :: starEach [b] X.env := by rfl)
    (nb : starEach [b] X.env = (false, eval b X.env) :: starEach [] X.env := by rfl) (hp : (backTo rpos (starEach [b] X.env)).any (·.1) = false := by rfl)
    (nl : starEach [.Call (.Name "range" rp) [a, b] [] rpos] X.env = (false, eval (.Call (.Name "range" rp) [a, b] [] rpos) X.env) :: starEach [] X.env := by rfl) : DN X W (.Call (.Name "list" p) [.Call (.Name "range" rp) [a, b] [] rpos] [] pos) (nRg2 fa fb) :=
  PE_imp (pe_listRg hc hgl hml (prg_2 hg hm ha hb na nb hp) nl) fun σ H Q ⟨Γ, S, Hf, μ, sl, so, o⟩ => ⟨Γ, S, Hf, μ, sl, so, Out.bind sl rm_new o fun d S1 v H1 Hf1 μ1 _ s1 sl1 so1 r1 o1 =>
    ⟨Γ, S1, Hf1, μ1, sl1, so1, Out.bind sl1 rm_new o1 fun d2 S2 v2 H2 Hf2 μ2 _ s2 sl2 so2 r2 o2 => by
    have bx := BorR.bor sl2 (BorR.keep (H0' := H) s2 r1)
    have by_ := BorR.bor sl2 r2
    cases d <;> first | exact o2.elim | skip
    cases d2 <;> first | exact o2.elim | skip
    rename_i m _ n _
    refine ⟨m, n, bx.int, by_.int, ?_⟩
    have o2 : Out X.K (NewR X.K) W σ H2 Hf2 μ2 (if rgOk m n then .ok (.lst (rngD m (n - m).toNat)) S2 else .no) Q := o2
    split at o2
    next h => exact fin_rg (H := H) h so2 o2
    · exact o2.elim⟩⟩
end
end DL
set_option Elab.async false
set_option linter.all false
set_option maxRecDepth 100000
/-! DLh: isinstance, repr, sorted(set(..)), methods that tell. -/
namespace DL
open PySem PySem.Spec PyProof.Rows L2

/-! ### isinstance of a built-in type -/
inductive Kd where
  | non | bl | int | str | lst | tup | dict
deriving DecidableEq
def Kd.name : Kd → String
  | .non => "NoneType" | .bl => "bool" | .int => "int" | .str => "str" | .lst => "list" | .tup => "tuple" | .dict => "dict"
def Kd.isa : Kd → Kd → Bool
  | .bl, .int => true
  | a, b => decide (a = b)
theorem kitK (a b : Kd) (hb : b ≠ .non) : kitB a.name b.name = some (a.isa b) := by
  cases a <;> cases b <;> first | exact absurd rfl hb | decide +kernel
def kdOf (S : Store) : D → Option Kd
  | .non => some .non
  | .bl _ => some .bl
  | .int _ => some .int
  | .str _ => some .str
  | .tup _ => some .tup
  | .lst _ => some .lst
  | .kst _ => some .lst
  | .loc n => match S[n]? with
    | some (.lst _) => some .lst
    | _ => none
  | .raw _ => none
  | .emp => some .dict
theorem tyx_l {K : PySem.W.Frag} {H : Hp} {a : Addr} {xs : List V} (q : SqL K H a xs) : TyX K H (.ref a) (.type "list") := by
  rcases q with (q | ⟨o, q⟩) | ⟨o, its, n, q, c, _⟩
  · exact .base (.lst q)
  · exact .base (.frz q)
  · exact .kList q c
theorem tyx_t {K : PySem.W.Frag} {H : Hp} {a : Addr} {xs : List V} (q : SqT K H a xs) : TyX K H (.ref a) (.type "tuple") := by
  rcases q with (q | ⟨o, q⟩) | ⟨o, its, n, q, c, _⟩
  · exact .base (.tup q)
  · exact .fTuple q
  · exact .kTuple q c
theorem tyx_of {K : PySem.W.Frag} {S : Store} {H Hf : Hp} {μ : List Addr} {d : D} {x : V} {k : Kd} (so : StoOk K S H Hf μ) (bx : Bor K H Hf μ d x) (e : kdOf S d = some k) : TyX K H x (.type k.name) := by
  cases d with
  | non => cases e; rw [bx.non]; exact .base .non
  | bl b => cases e; rw [bx.bl]; exact .base (.bl b)
  | int b => cases e; rw [bx.int]; exact .base (.int b)
  | str b => cases e; rw [bx.str]; exact .base (.str b)
  | tup ds =>
    cases e
    obtain ⟨a, xs, rfl, q, _⟩ := bx.tup
    exact tyx_t (so.sub.tp q)
  | lst ds =>
    cases e
    obtain ⟨a, xs, rfl, q, _⟩ := viewLs_ok so bx rfl
    exact tyx_l q
  | kst ds =>
    cases e
    obtain ⟨a, xs, rfl, q, _⟩ := viewLs_ok so bx rfl
    exact tyx_l q
  | loc n =>
    have e : (match S[n]? with | some (.lst _) => some Kd.lst | _ => none) = some k := e
    cases e2 : S[n]? with
    | none => rw [e2] at e; cases e
    | some o =>
      rw [e2] at e
      cases o with
      | lst es =>
        cases e
        obtain ⟨a, xs, rfl, q, _⟩ := viewLs_ok (d := .loc n) so bx (by show (match S[n]? with | some (.lst ds) => some ds | _ => none : Option (List D)) = _; rw [e2])
        exact tyx_l q
      | _ => cases e
  | raw w => cases e
  | emp =>
    cases e
    rcases bx with r | ⟨_, _, _, z, _⟩
    · simp only [Rep] at r
      obtain ⟨a, rfl, q⟩ := r
      exact .base (.dK (so.sub _ _ q))
    · cases z
/-- the type's name as an argument -/
def eTy (k : Kd) : Ev D := eC (.raw (.ty k.name))
theorem db_ty {X : Cx} {W : WX} {x : PySem.Str} {pos : Pos} (k : Kd) (hg : Gl X x) (hm : X.mg x = none) (hv : bootBuiltins x = some (.type k.name)) (hn : x ≠ "__name__" := by decide) (hd : (x == ("__debug__" : PySem.Str)) = false := by decide) : DB X W (.Name x pos) (eTy k) :=
  db_of (PE_imp (pe_bltn (v := .ty k.name) hg hm hv rfl hn hd) fun _ _ _ => tE_c fun _ _ => by simp only [Rep])
def bIsi (c : Kd) : OpN := op2 fun S a t => match t with
  | .raw (.ty n) => if n == c.name && decide (c ≠ .non) then (kdOf S a).map fun k => .bl (k.isa c) else none
  | _ => none
theorem cb_isi {K : PySem.W.Frag} (c : Kd) : CallB K (rIsi K) (bIsi c) := callB_two fun S H Hf μ x y d t z Q so bx by_ e k => by
  split at e
  next n =>
    split at e
    next h =>
      rw [Bool.and_eq_true, beq_iff_eq, decide_eq_true_eq] at h
      obtain ⟨rfl, hc⟩ := h
      cases e2 : kdOf S d with
      | none => rw [e2] at e; cases e
      | some kd =>
        rw [e2] at e
        cases e
        refine ⟨x, y, _, .type c.name, kd.isa c, rfl, ?_, tyx_of so bx e2, kit_ty (kitK kd c hc), k _ H Hf μ (Step.refl _ _ _) so (by simp only [Rep])⟩
        rw [by_.raw]
        exact .ty _
    · cases e
  · cases e

/-! ### repr -/
/-- sys.modules stands in the written part as a dict -/
def sysB (K : PySem.W.Frag) : Bool := match K.lookup sysModules with
  | some o => decide (o.cls = .type "dict")
  | none => false
mutual
/-- what is shown: data, empty dicts too -/
inductive Rp (K : PySem.W.Frag) (H : Hp) : V → PyData → Prop
  | non : Rp K H .non .none
  | bl (b : Bool) : Rp K H (.bl b) (.bool b)
  | int (i : Int) : Rp K H (.int i) (.int i)
  | str (x : PySem.Str) : Rp K H (.str x) (.str x)
  | lst {a : Addr} {xs : List V} {ps : List PyData} : SqL K H a xs → RpAll K H xs ps → Rp K H (.ref a) (.list ps)
  | tup {a : Addr} {xs : List V} {ps : List PyData} : SqT K H a xs → RpAll K H xs ps → Rp K H (.ref a) (.tuple ps)
  | emp {a : Addr} : H a = some (.dK []) → Rp K H (.ref a) (.dict [])
inductive RpAll (K : PySem.W.Frag) (H : Hp) : List V → List PyData → Prop
  | nil : RpAll K H [] []
  | cons {v : V} {vs : List V} {p : PyData} {ps : List PyData} : Rp K H v p → RpAll K H vs ps → RpAll K H (v :: vs) (p :: ps)
end
mutual
theorem Rp.of_dp {K : PySem.W.Frag} {H : Hp} : ∀ (p : PyData) (v : V), Dp K H v p → Rp K H v p
  | .none, _, h => by cases h; exact .non
  | .bool _, _, h => by cases h; exact .bl _
  | .int _, _, h => by cases h; exact .int _
  | .str _, _, h => by cases h; exact .str _
  | .list ps, _, h => by
    cases h with
    | lst q r => exact .lst q (RpAll.of_dp ps _ r)
  | .tuple ps, _, h => by
    cases h with
    | tup q r => exact .tup q (RpAll.of_dp ps _ r)
  | .dict _, _, h => by cases h
theorem RpAll.of_dp {K : PySem.W.Frag} {H : Hp} : ∀ (ps : List PyData) (vs : List V), DpAll K H vs ps → RpAll K H vs ps
  | [], _, h => by cases h; exact .nil
  | p :: ps, _, h => by
    cases h with
    | cons a b => exact .cons (Rp.of_dp p _ a) (RpAll.of_dp ps _ b)
end
section
variable {X : Cx} {pins : List (Addr × Obj)} {σ : L2.St} {H : Hp} {s : Shared}
theorem sys_ne {a : Addr} {o : Obj} (I : Inv X pins σ H s) (hs : sysB X.K = true) (ho : s.heap.get? a = some o) (hc : o.cls ≠ .type "dict") : a ≠ sysModules := fun e => by
  unfold sysB at hs
  split at hs
  next od hl =>
    have h1 := I.kIn _ _ hl
    rw [e, h1] at ho
    cases ho
    exact hc (of_decide_eq_true hs)
  · cases hs
theorem pairs_nil {P : Program} {w : World} {knd : PySem.KeyKind P w Key} : ∀ {es : List DictEntry}, Pairs knd es [] → es = []
  | [], _ => rfl
  | _ :: _, h => by cases h
mutual
theorem Rp.reads (I : Inv X pins σ H s) (hs : sysB X.K = true) : ∀ (p : PyData) (v : V) (u : Value), Rp X.K H v p → RelV v u → ∃ as, Reads s.heap u p as ∧ sysModules ∉ as
  | .none, _, _, h, r => by cases h; cases r; exact ⟨[], .none, by simp⟩
  | .bool b, _, _, h, r => by cases h; cases r; exact ⟨[], .bool b, by simp⟩
  | .int i, _, _, h, r => by cases h; obtain ⟨t, rfl⟩ := r; exact ⟨[], .int i t, by simp⟩
  | .str x, _, _, h, r => by cases h; obtain ⟨t, rfl⟩ := r; exact ⟨[], .str x t, by simp⟩
  | .list ps, _, _, h, r => by
    cases h with
    | lst q k =>
      cases r
      obtain ⟨its, rv, ⟨o, n, ho, hc, _, hd⟩, _⟩ := I.list q
      obtain ⟨as, h1, h2⟩ := RpAll.reads I hs ps _ its k rv
      refine ⟨_, Reads.list ho hc hd h1, fun m => ?_⟩
      rcases List.mem_cons.mp m with e | m
      · exact sys_ne I hs ho (by rw [hc]; decide) e.symm
      · exact h2 m
  | .tuple ps, _, _, h, r => by
    cases h with
    | tup q k =>
      cases r
      obtain ⟨its, rv, ⟨o, ho, hc, n, hd⟩, _⟩ := I.tuple q
      obtain ⟨as, h1, h2⟩ := RpAll.reads I hs ps _ its k rv
      exact ⟨_, Reads.tuple ho hc hd h1, h2⟩
  | .dict _, _, _, h, r => by
    cases h with
    | @emp a q =>
      cases r
      obtain ⟨_, hd, vs, rel, o, es, ep, h1, h2, h3, h4⟩ := dk_of I.hok q
      cases rel
      refine ⟨_, Reads.dict (kvs := []) (as := []) (bs := []) h1 h2.1 h3 ?_ ?_, fun m => ?_⟩
      · have : es.toList = [] := pairs_nil h4.2.1
        rw [this]; exact .nil
      · have : es.toList = [] := pairs_nil h4.2.1
        rw [this]; exact .nil
      · have e : sysModules = a := by simpa using m
        rw [← e] at hd
        simp at hd
theorem RpAll.reads (I : Inv X pins σ H s) (hs : sysB X.K = true) : ∀ (ps : List PyData) (vs : List V) (us : List Value), RpAll X.K H vs ps → Vals vs us → ∃ as, ReadsAll s.heap us ps as ∧ sysModules ∉ as
  | [], _, _, h, r => by cases h; cases r; exact ⟨[], .nil, by simp⟩
  | p :: ps, _, _, h, r => by
    cases h with
    | cons a b =>
      cases r with
      | cons c d =>
        obtain ⟨as, h1, h2⟩ := Rp.reads I hs p _ _ a c
        obtain ⟨bs, h3, h4⟩ := RpAll.reads I hs ps _ _ b d
        exact ⟨_, .cons h1 h3, fun m => (List.mem_append.mp m).elim h2 h4⟩
end
end
def reprOk (p : PyData) : Bool := p.showable && decide (p.depth ≤ 60) && decide (p.shown.length ≤ sizeLine)
def rRepr (K : PySem.W.Frag) : List V → Hp → VK → Prop := fun xs H Q => ∃ x p, xs = [x] ∧ ((∃ a, x = .ref a) ∨ ∃ i, x = .int i) ∧ Rp K H x p ∧ reprOk p = true ∧ Q (.str p.shown) H
theorem call_repr {X : Cx} (hs : sysB X.K = true) (hgd : X.A.guards = some []) (hu : X.A.units + 64 < cLine) : CallR X (.builtin "repr") (rRepr X.K) := by
  intro pins s σ H xs us Q I r h
  obtain ⟨x, p, rfl, hx, dp, ok, q⟩ := h
  simp only [reprOk, Bool.and_eq_true, decide_eq_true_eq] at ok
  obtain ⟨⟨h1, h2⟩, h3⟩ := ok
  rcases hx with ⟨a, rfl⟩ | ⟨i, rfl⟩
  · obtain ⟨u, rfl, ru⟩ := vals1 r
    obtain rfl : u = .ref a := ru
    obtain ⟨as, rd, nm⟩ := Rp.reads I hs p _ _ dp rfl
    exact repr_of_reads' rd h1 (fun _ => nm) hgd (by omega) (fun _ _ e => e) (fun h' u tk k => ⟨.str p.shown, H, I.kept (t' := tk) k, ⟨u, rfl⟩, q⟩) h3
  · cases dp
    obtain ⟨u, rfl, t, rfl⟩ := vals1 r
    simp only [PyData.showable, decide_eq_true_eq] at h1
    exact PySem.P.repr_of_int h1 ⟨.str _, H, I.tok _, ⟨_, rfl⟩, by simpa [PyData.shown] using q⟩
mutual
/-- the data that is shown -/
def pyR (S : Store) : D → Option PyData
  | .non => some .none
  | .bl b => some (.bool b)
  | .int i => some (.int i)
  | .str s => some (.str s)
  | .tup ds => (pyRL S ds).map .tuple
  | .lst ds => (pyRL S ds).map .list
  | .kst ds => (pyRL S ds).map .list
  | .loc n => match S[n]? with
    | some (.lst ds) => (pyDL ds).map .list
    | _ => none
  | .raw _ => none
  | .emp => some (.dict [])
def pyRL (S : Store) : List D → Option (List PyData)
  | [] => some []
  | d :: ds => match pyR S d, pyRL S ds with
    | some p, some ps => some (p :: ps)
    | _, _ => none
end
section
variable {K : PySem.W.Frag} {μ : List Addr} {H Hf : Hp} {S : Store}
mutual
theorem rp_of (so : StoOk K S H Hf μ) : ∀ (d : D) (v : V) (p : PyData), Rep K μ Hf d v → pyR S d = some p → Rp K H v p
  | .non, v, p, r, e => by simp only [Rep] at r; simp only [pyR, Option.some.injEq] at e; subst r e; exact .non
  | .bl b, v, p, r, e => by simp only [Rep] at r; simp only [pyR, Option.some.injEq] at e; subst r e; exact .bl b
  | .int i, v, p, r, e => by simp only [Rep] at r; simp only [pyR, Option.some.injEq] at e; subst r e; exact .int i
  | .str s, v, p, r, e => by simp only [Rep] at r; simp only [pyR, Option.some.injEq] at e; subst r e; exact .str s
  | .tup ds, v, p, r, e => by
    simp only [Rep] at r
    obtain ⟨a, xs, rfl, q, _, rl⟩ := r
    simp only [pyR] at e
    cases e2 : pyRL S ds with
    | none => rw [e2] at e; cases e
    | some ps => rw [e2] at e; cases e; exact .tup (so.sub.tp q) (rps_of so ds xs ps rl e2)
  | .lst ds, v, p, r, e => by
    simp only [Rep] at r
    obtain ⟨a, xs, rfl, q, _, rl⟩ := r
    simp only [pyR] at e
    cases e2 : pyRL S ds with
    | none => rw [e2] at e; cases e
    | some ps => rw [e2] at e; cases e; exact .lst (SqL.of (so.sub _ _ q)) (rps_of so ds xs ps rl e2)
  | .kst ds, v, p, r, e => by
    simp only [Rep] at r
    obtain ⟨a, xs, rfl, q, _, rl⟩ := r
    simp only [pyR] at e
    cases e2 : pyRL S ds with
    | none => rw [e2] at e; cases e
    | some ps => rw [e2] at e; cases e; exact .lst (so.sub.sl q) (rps_of so ds xs ps rl e2)
  | .loc n, v, p, r, e => by
    have e' : pyS S (.loc n) = some p := by
      simp only [pyR] at e
      simp only [pyS]
      cases e3 : S[n]? with
      | none => rw [e3] at e; cases e
      | some o =>
        rw [e3] at e
        cases o <;> first | exact e | (cases e; done)
    exact Rp.of_dp _ _ (bor_dp so (.inl r) e')
  | .raw _, v, p, r, e => by simp only [pyR] at e; cases e
  | .emp, v, p, r, e => by
    simp only [Rep] at r
    obtain ⟨a, rfl, q⟩ := r
    simp only [pyR, Option.some.injEq] at e
    subst e
    exact .emp (so.sub _ _ q)
theorem rps_of (so : StoOk K S H Hf μ) : ∀ (ds : List D) (vs : List V) (ps : List PyData), RepL K μ Hf ds vs → pyRL S ds = some ps → RpAll K H vs ps
  | [], vs, ps, r, e => by simp only [RepL] at r; simp only [pyRL, Option.some.injEq] at e; subst r e; exact .nil
  | d :: ds, vs, ps, r, e => by
    simp only [RepL] at r
    obtain ⟨x, xs, rfl, q, rl⟩ := r
    simp only [pyRL] at e
    cases e1 : pyR S d with
    | none => rw [e1] at e; cases e
    | some p =>
      rw [e1] at e
      cases e2 : pyRL S ds with
      | none => rw [e2] at e; cases e
      | some qs => rw [e2] at e; cases e; exact .cons (rp_of so d x p q e1) (rps_of so ds xs qs rl e2)
end
theorem bor_rp (so : StoOk K S H Hf μ) {d : D} {v : V} {p : PyData} (bx : Bor K H Hf μ d v) (e : pyR S d = some p) : Rp K H v p := by
  rcases bx with r | ⟨ds, a, xs, rfl, rfl, hp, z, q⟩
  · exact rp_of so d v p r e
  · simp only [pyR] at e
    cases e2 : pyRL S ds with
    | none => rw [e2] at e; cases e
    | some ps => rw [e2] at e; cases e; exact .lst (SqL.of hp) (rps_of so ds xs ps q e2)
end
def isRefD : D → Bool
  | .tup _ => true
  | .lst _ => true
  | .kst _ => true
  | .loc _ => true
  | .int _ => true
  | .emp => true
  | _ => false
def bRepr : OpN := op1 fun S d => if isRefD d then match pyR S d with
  | some p => if reprOk p then some (.str p.shown) else none
  | none => none else none
theorem cb_repr {K : PySem.W.Frag} : CallB K (rRepr K) bRepr := callB_one fun S H Hf μ x d c Q so bx e k => by
  split at e
  next hd =>
    cases e2 : pyR S d with
    | none => rw [e2] at e; cases e
    | some p =>
      rw [e2] at e
      simp only at e
      split at e
      next ok =>
        cases e
        refine ⟨x, p, rfl, ?_, bor_rp so bx e2, ok, k _ H Hf μ (Step.refl _ _ _) so (by simp only [Rep])⟩
        cases d with
        | tup ds => obtain ⟨a, xs, rfl, _⟩ := bx.tup; exact .inl ⟨a, rfl⟩
        | lst ds => obtain ⟨a, xs, rfl, _⟩ := viewLs_ok so bx rfl; exact .inl ⟨a, rfl⟩
        | kst ds => obtain ⟨a, xs, rfl, _⟩ := viewLs_ok so bx rfl; exact .inl ⟨a, rfl⟩
        | loc n =>
          rcases bx with r | ⟨_, _, _, z, _⟩
          · simp only [Rep] at r
            obtain ⟨a, rfl, _⟩ := r
            exact .inl ⟨a, rfl⟩
          · cases z
        | emp =>
          rcases bx with r | ⟨_, _, _, z, _⟩
          · simp only [Rep] at r
            obtain ⟨a, rfl, _⟩ := r
            exact .inl ⟨a, rfl⟩
          · cases z
        | int i => exact .inr ⟨i, bx.int⟩
        | _ => cases hd
      · cases e
  · cases e
theorem de_repr {X : Cx} {W : WX} {e : Expr} {g : Ev (List D)} {p pos : Pos} (hs : sysB X.K = true) (hgd : X.A.guards = some []) (hu : X.A.units + 64 < cLine) (hg : Gl X "repr") (hm : X.mg "repr" = none) (hv : bootBuiltins "repr" = some (.builtin "repr")) (ha : DAb X W [e] g)
    (he : starEach [e] X.env = (false, eval e X.env) :: starEach [] X.env := by rfl) : DE X W (.Call (.Name "repr" p) [e] [] pos) (eFn bRepr g) :=
  de_bi (call_repr hs hgd hu) cb_repr hg hm hv ha (by decide) (by decide) he rfl

/-! ### sorted(set(x)), x a list of tuples of d small ints -/
def insS (x : List Int) : List (List Int) → List (List Int)
  | [] => [x]
  | y :: l => if HT.lexLt x y then x :: y :: l else if x = y then y :: l else y :: insS x l
def sortS : List (List Int) → List (List Int)
  | [] => []
  | x :: l => insS x (sortS l)
theorem mem_insS {x z : List Int} : ∀ {l : List (List Int)}, z ∈ insS x l ↔ z = x ∨ z ∈ l
  | [] => by simp [insS]
  | y :: l => by
    unfold insS
    split
    · simp
    · split
      next h => subst h; simp
      · simp only [List.mem_cons, mem_insS (l := l)]
        constructor
        · rintro (h | h | h)
          · exact .inr (.inl h)
          · exact .inl h
          · exact .inr (.inr h)
        · rintro (h | h | h)
          · exact .inr (.inl h)
          · exact .inl h
          · exact .inr (.inr h)
theorem mem_sortS {z : List Int} : ∀ {l : List (List Int)}, z ∈ sortS l ↔ z ∈ l
  | [] => by simp [sortS]
  | x :: l => by unfold sortS; rw [mem_insS, mem_sortS, List.mem_cons]
theorem lexLt_code {B : Int} : ∀ {xs ys : List Int}, xs.length = ys.length → TS.Bd B xs → TS.Bd B ys → (HT.lexLt xs ys = true ↔ TS.code B xs < TS.code B ys)
  | [], [], _, _, _ => by simp [HT.lexLt, TS.code]
  | x :: xs, y :: ys, hl, h1, h2 => by
    have hl' : xs.length = ys.length := by simpa using hl
    unfold HT.lexLt
    split
    next h => subst h; rw [lexLt_code hl' h1.tail h2.tail, TS.code_same hl']
    next h =>
      rw [decide_eq_true_eq]
      constructor
      · exact fun z => TS.code_lt hl' h1.tail h2.tail z
      · intro z
        rcases Int.lt_trichotomy x y with q | q | q
        · exact q
        · exact absurd q h
        · have := TS.code_lt hl'.symm h2.tail h1.tail q
          omega
theorem code_inj {B : Int} : ∀ {xs ys : List Int}, xs.length = ys.length → TS.Bd B xs → TS.Bd B ys → TS.code B xs = TS.code B ys → xs = ys
  | [], [], _, _, _, _ => rfl
  | x :: xs, y :: ys, hl, h1, h2, e => by
    have hl' : xs.length = ys.length := by simpa using hl
    have hxy : x = y := by
      rcases Int.lt_trichotomy x y with q | q | q
      · have := TS.code_lt hl' h1.tail h2.tail q; omega
      · exact q
      · have := TS.code_lt hl'.symm h2.tail h1.tail q; omega
    subst hxy
    have : TS.code B xs = TS.code B ys := by
      have e' : x * B ^ xs.length + TS.code B xs = x * B ^ ys.length + TS.code B ys := e
      rw [hl'] at e'
      omega
    rw [code_inj hl' h1.tail h2.tail this]
/-- all of length d, with entries under B -/
def BdAll (d : Nat) (B : Int) (l : List (List Int)) : Prop := ∀ x ∈ l, x.length = d ∧ TS.Bd B x
def Incr (B : Int) (l : List (List Int)) : Prop := l.Pairwise fun x y => TS.code B x < TS.code B y
theorem incr_insS {d : Nat} {B : Int} {x : List Int} : ∀ {l : List (List Int)}, BdAll d B (x :: l) → Incr B l → Incr B (insS x l)
  | [], _, _ => List.pairwise_singleton _ _
  | y :: l, hb, hi => by
    have hx := hb x (by simp)
    have hy := hb y (by simp)
    have hlt := lexLt_code (B := B) (hx.1.trans hy.1.symm) hx.2 hy.2
    unfold Incr at hi
    rw [List.pairwise_cons] at hi
    unfold insS
    split
    next h =>
      refine List.Pairwise.cons (fun z hz => ?_) (List.Pairwise.cons hi.1 hi.2)
      rcases List.mem_cons.mp hz with rfl | hz
      · exact hlt.mp h
      · have := hi.1 z hz; have := hlt.mp h; omega
    next h =>
      split
      next h2 => exact List.Pairwise.cons hi.1 hi.2
      next h2 =>
        have ih : Incr B (insS x l) := incr_insS (fun z hz => hb z (by rcases List.mem_cons.mp hz with r | r; exact List.mem_cons.mpr (.inl r); exact List.mem_cons.mpr (.inr (List.mem_cons_of_mem _ r)))) hi.2
        refine List.Pairwise.cons (fun z hz => ?_) ih
        rcases mem_insS.mp hz with rfl | hz
        · have n1 : ¬ TS.code B z < TS.code B y := fun q => h (hlt.mpr q)
          have n2 : TS.code B z ≠ TS.code B y := fun q => h2 (code_inj (hx.1.trans hy.1.symm) hx.2 hy.2 q)
          omega
        · exact hi.1 z hz
theorem incr_sortS {d : Nat} {B : Int} : ∀ {l : List (List Int)}, BdAll d B l → Incr B (sortS l)
  | [], _ => List.Pairwise.nil
  | x :: l, hb => by
    have h2 : BdAll d B l := fun z hz => hb z (List.mem_cons_of_mem _ hz)
    exact incr_insS (fun z hz => hb z (by
      rcases List.mem_cons.mp hz with r | r
      · exact List.mem_cons.mpr (.inl r)
      · exact List.mem_cons_of_mem _ (mem_sortS.mp r))) (incr_sortS h2)
theorem incr_unique {B : Int} : ∀ {l m : List (List Int)}, Incr B l → Incr B m → (∀ z, z ∈ l ↔ z ∈ m) → l = m
  | [], [], _, _, _ => rfl
  | [], y :: m, _, _, h => by have := (h y).mpr (by simp); simp at this
  | x :: l, [], _, _, h => by have := (h x).mp (by simp); simp at this
  | x :: l, y :: m, h1, h2, h => by
    unfold Incr at h1 h2
    rw [List.pairwise_cons] at h1 h2
    have hxy : x = y := by
      rcases List.mem_cons.mp ((h x).mp (by simp)) with e | e
      · exact e
      · rcases List.mem_cons.mp ((h y).mpr (by simp)) with e2 | e2
        · exact e2.symm
        · have a := h2.1 x e
          have b := h1.1 y e2
          omega
    subst hxy
    rw [incr_unique h1.2 h2.2 fun z => ?_]
    constructor
    · intro hz
      rcases List.mem_cons.mp ((h z).mp (List.mem_cons_of_mem _ hz)) with e | e
      · subst e; have := h1.1 z hz; omega
      · exact e
    · intro hz
      rcases List.mem_cons.mp ((h z).mpr (List.mem_cons_of_mem _ hz)) with e | e
      · subst e; have := h2.1 z hz; omega
      · exact e
/-- the tuples of ints -/
def tupsOf : List D → Option (List (List Int))
  | [] => some []
  | .tup ds :: r => match intsOf ds, tupsOf r with
    | some ns, some l => some (ns :: l)
    | _, _ => none
  | _ => none
def tupI (ns : List Int) : D := .tup (ns.map .int)
theorem intsOf_map {ds : List D} : ∀ {ns : List Int}, intsOf ds = some ns → ds = ns.map .int := by
  induction ds with
  | nil => intro ns e; cases e; rfl
  | cons d ds ih =>
    intro ns e
    cases d <;> first | (simp [intsOf] at e; done) | skip
    simp only [intsOf] at e
    cases e2 : intsOf ds with
    | none => rw [e2] at e; cases e
    | some ms => rw [e2] at e; cases e; rw [ih e2]; rfl
theorem tups_of {K : PySem.W.Frag} {μ : List Addr} {Hf : Hp} : ∀ {ds : List D} {xs : List V} {l : List (List Int)}, RepL K μ Hf ds xs → tupsOf ds = some l →
    ∃ ks : List (Addr × List Int), xs = ks.map (fun p => V.ref p.1) ∧ (∀ p ∈ ks, Hf p.1 = some (.tup (p.2.map V.int)) ∧ p.2.length ≤ sizeLine) ∧ ks.map (·.2) = l
  | [], xs, l, r, e => by
    simp only [RepL] at r; cases e; subst r
    exact ⟨[], rfl, (fun p hp => by cases hp), rfl⟩
  | d :: ds, xs, l, r, e => by
    simp only [RepL] at r
    obtain ⟨x, ys, rfl, q, rl⟩ := r
    cases d <;> first | (simp [tupsOf] at e; done) | skip
    rename_i es
    simp only [tupsOf] at e
    cases e1 : intsOf es with
    | none => rw [e1] at e; cases e
    | some ns =>
      cases e2 : tupsOf ds with
      | none => rw [e1, e2] at e; cases e
      | some m =>
        rw [e1, e2] at e
        cases e
        simp only [Rep] at q
        obtain ⟨a, vs, rfl, hq, hz, rv⟩ := q
        have hv := ints_of rv e1
        subst hv
        obtain ⟨ks, h1, h2, h3⟩ := tups_of rl e2
        refine ⟨(a, ns) :: ks, by rw [h1]; rfl, fun p hp => ?_, by rw [List.map_cons, h3]⟩
        rcases List.mem_cons.mp hp with rfl | hp
        · exact ⟨hq, by simpa using hz⟩
        · exact h2 p hp
def ssOk (d : Nat) (B : Int) (l : List (List Int)) : Bool := decide (1 ≤ d) && decide (l.length < 64) && l.all fun x => decide (x.length = d) && x.all fun m => decide (0 ≤ m) && decide (m < B)
def nSS (d : Nat) (B : Int) (f : Ev D) : Ev SO := fun Γ S => (f Γ S).bind fun x S1 => match (viewLs S1 x).bind tupsOf with
  | some l => if ssOk d B l then .ok (.lst ((sortS l).map tupI)) S1 else .no
  | none => .no
theorem Step.ext {K : PySem.W.Frag} {S : Store} {H Hf : Hp} {μ : List Addr} {p : Addr} {u : HO} (so : StoOk K S H Hf μ) (hp : H p = none) : Step H Hf μ (upd H p u) Hf μ ∧ StoOk K S (upd H p u) Hf μ := let ⟨a, b, _⟩ := Step.layN (u := u) so hp; ⟨a, b⟩
theorem repL_ref {K : PySem.W.Frag} {μ : List Addr} {Hf : Hp} : ∀ {L : List (Addr × List Int)}, (∀ p ∈ L, Hf p.1 = some (.tup (p.2.map V.int)) ∧ p.2.length ≤ sizeLine) → RepL K μ Hf ((L.map (·.2)).map tupI) (L.map fun q => V.ref q.1)
  | [], _ => RepL.nil
  | p :: L, h => by
    refine RepL.cons ?_ (repL_ref fun q hq => h q (List.mem_cons_of_mem _ hq))
    obtain ⟨h1, h2⟩ := h p (by simp)
    simp only [tupI, Rep]
    refine ⟨p.1, _, rfl, h1, by simpa using h2, ?_⟩
    exact go p.2
where
  go : ∀ ns : List Int, RepL K μ Hf (ns.map .int) (ns.map V.int)
    | [] => RepL.nil
    | n :: ns => RepL.cons (by simp only [Rep]) (go ns)
theorem dn_ss {X : Cx} {W : WX} {a : Expr} {fa : Ev D} {p1 p2 q1 q2 : Pos} (d : Nat) (B : Int) (hc : X.calm = true) (hu : X.A.units + 64 < cLine) (hgs : Gl X "sorted") (hms : X.mg "sorted" = none) (hvs : bootBuiltins "sorted" = some (.builtin "sorted"))
    (hge : Gl X "set") (hme : X.mg "set" = none) (hve : bootBuiltins "set" = some (.type "set")) (ha : DB X W a fa)
    (he1 : starEach [a] X.env = (false, eval a X.env) :: starEach [] X.env := by rfl)
    (he2 : starEach [.Call (.Name "set" p2) [a] [] q2] X.env = (false, eval (.Call (.Name "set" p2) [a] [] q2) X.env) :: starEach [] X.env := by rfl) :
    DN X W (.Call (.Name "sorted" p1) [.Call (.Name "set" p2) [a] [] q2] [] q1) (nSS d B fa) := by
  refine PE_imp (pe_callB (cr_sortedT hc) hgs hms hvs (pa_cons (pe_callTy (cr_setOfT hc hu) hge hme hve (pa_cons ha pa_nil he1) (by decide) (by decide) he1 rfl) pa_nil he2) (by decide) (by decide) he2 rfl) fun σ H Q ⟨Γ, S, Hf, μ, sl, so, o⟩ => ?_
  refine ⟨Γ, S, Hf, μ, sl, so, Out.bind sl rm_new o fun x S1 v H1 Hf1 μ1 _ s1 sl1 so1 r1 o1 => ?_⟩
  cases e : (viewLs S1 x).bind tupsOf with
  | none => simp only [e] at o1; exact o1.elim
  | some l =>
    simp only [e] at o1
    split at o1
    next ok =>
      cases e1 : viewLs S1 x with
      | none => rw [e1] at e; cases e
      | some ds =>
        rw [e1] at e
        have e : tupsOf ds = some l := e
        obtain ⟨p, xs, rfl, hq, hz, rl⟩ := viewLs_ok so1 (BorR.bor sl1 r1) e1
        obtain ⟨ks, rfl, hk, rfl⟩ := tups_of rl e
        simp only [ssOk, Bool.and_eq_true, decide_eq_true_eq, List.all_eq_true, List.length_map] at ok
        obtain ⟨⟨hd, hlen⟩, hb⟩ := ok
        have bd : BdAll d B (ks.map (·.2)) := fun z hz => ⟨(hb z hz).1, fun m hm => (hb z hz).2 m hm⟩
        refine ⟨p, ks, rfl, hq, fun q hq => so1.sub.tp (hk q hq).1, hlen, fun a L hn hsub hall => ?_⟩
        obtain ⟨st2, so2⟩ := Step.ext (u := SetTO X.prog X.w a L) so1 hn
        have hLk : ∀ q ∈ L, Hf1 q.1 = some (.tup (q.2.map V.int)) ∧ q.2.length ≤ sizeLine := fun q hq => hk q (hsub q hq)
        refine ⟨a, L, d, B, rfl, upd_same, fun q hq => so2.sub.tp (hLk q hq).1, hd, fun q hq => ?_, fun L' b hperm hnd hl64 hpw hbn => ?_⟩
        · have := bd q.2 (List.mem_map.mpr ⟨q, hsub q hq, rfl⟩)
          exact this
        · obtain ⟨st3, so3, hf3, hm3⟩ := Step.layN (u := .lst (L'.map fun q => V.ref q.1)) so2 hbn
          have hL' : ∀ q ∈ L', Hf1 q.1 = some (.tup (q.2.map V.int)) ∧ q.2.length ≤ sizeLine := fun q hq => hLk q (hperm.mem_iff.mp hq)
          have bdL : BdAll d B (L'.map (·.2)) := fun z hz => by
            obtain ⟨q, hq, rfl⟩ := List.mem_map.mp hz
            exact bd q.2 (List.mem_map.mpr ⟨q, hsub q (hperm.mem_iff.mp hq), rfl⟩)
          have inc : Incr B (L'.map (·.2)) := by
            have h1 : (L'.map (·.2)).Pairwise fun x y => TS.code B x ≤ TS.code B y := List.pairwise_map.mpr hpw
            exact go h1 hnd bdL
          have eqL : L'.map (·.2) = sortS (ks.map (·.2)) := incr_unique inc (incr_sortS bd) fun z => by
            rw [mem_sortS]
            constructor
            · intro hz
              obtain ⟨q, hq, rfl⟩ := List.mem_map.mp hz
              exact List.mem_map.mpr ⟨q, hsub q (hperm.mem_iff.mp hq), rfl⟩
            · intro hz
              obtain ⟨q, hq, rfl⟩ := List.mem_map.mp hz
              obtain ⟨r, hr, er⟩ := List.mem_map.mp (hall q hq)
              exact List.mem_map.mpr ⟨r, hperm.mem_iff.mpr hr, er⟩
          refine o1 _ _ _ μ1 (st2.trans st3) so3 ⟨b, _, rfl, ?_, upd_same, ⟨_, rfl, ?_, ?_⟩, hf3, hm3⟩
          · exact Classical.byContradiction fun z => st2.th b z hbn
          · rw [List.length_map, sizeLine_eq]; omega
          · rw [← eqL]
            exact repL_ref hL'
    · exact o1.elim
where
  go {B : Int} {d : Nat} : ∀ {l : List (List Int)}, (l.Pairwise fun x y => TS.code B x ≤ TS.code B y) → l.Nodup → BdAll d B l → Incr B l
    | [], _, _, _ => List.Pairwise.nil
    | x :: l, h1, h2, h3 => by
      rw [List.pairwise_cons] at h1
      rw [List.nodup_cons] at h2
      refine List.Pairwise.cons (fun z hz => ?_) (go h1.2 h2.2 fun y hy => h3 y (List.mem_cons_of_mem _ hy))
      have a := h1.1 z hz
      have hx := h3 x (by simp)
      have hzz := h3 z (List.mem_cons_of_mem _ hz)
      have : TS.code B x ≠ TS.code B z := fun e => h2.1 (code_inj (hx.1.trans hzz.1.symm) hx.2 hzz.2 e ▸ hz)
      omega
end DL
set_option Elab.async false
set_option linter.all false
set_option maxRecDepth 100000
/-! DLi: what changes objects: a slot's own, the store's; several names at once; unpacking. -/
namespace DL
open PySem PySem.Spec PyProof.Rows L2

section
variable {K : PySem.W.Frag} {B : Base} {Γ : Gm} {S S' : Store} {σ : L2.St} {H Hf H' Hf' : Hp} {μ μ' : List Addr} {W : WX}
theorem get_set_own {i j : Nat} {o o' : SO} (h : (Γ.set i (some (.own o')))[j]? = some (some (.own o))) : (j = i ∧ o = o') ∨ (j ≠ i ∧ Γ[j]? = some (some (.own o))) := by
  by_cases hj : i = j
  · subst hj
    by_cases hl : i < Γ.length
    · rw [List.getElem?_set_self hl] at h
      cases h
      exact .inl ⟨rfl, rfl⟩
    · rw [List.getElem?_eq_none (by rw [List.length_set]; omega)] at h
      cases h
  · rw [List.getElem?_set_ne hj] at h
    exact .inr ⟨fun z => hj z.symm, h⟩
/-- a slot's own object is written -/
theorem Rl.mut (r : Rl K B Γ S σ H Hf μ) {i : Nat} {o o' : SO} {p : Addr} {u u' : HO} (hi : Γ[i]? = some (some (.own o))) (hs : σ[i]? = some (some (V.ref p))) (hp : H p = some u) (hf : Hf p = none) (hm : p ∉ μ) (ho : ORep K μ Hf o' u') :
    Rl K B (Γ.set i (some (.own o'))) S σ (upd H p u') Hf μ := by
  have hb := r.own i o p hi hs
  have pv : Priv p u H Hf μ := ⟨hp, hf, hm⟩
  refine ⟨⟨by rw [List.length_set]; exact r.sl.len, fun j d e => ?_, fun j c e => ?_, fun j k c c' q e1 e2 s1 s2 => ?_⟩, pv.sto r.so, Priv.back hb r.st, fun j c q e1 e2 => ?_, r.fz, r.pm⟩
  · by_cases hj : i = j
    · subst hj
      have hl : i < Γ.length := (List.getElem?_eq_some_iff.mp hi).1
      rw [List.getElem?_set_self hl] at e
      cases e
    · rw [List.getElem?_set_ne hj] at e
      exact r.sl.val j d e
  · rcases get_set_own e with ⟨rfl, rfl⟩ | ⟨hj, e⟩
    · exact ⟨p, u', hs, upd_same, ho, hf, hm⟩
    · obtain ⟨q, w, s1, h1, h2, h3, h4⟩ := r.sl.own j c e
      have hqp : q ≠ p := fun z => hj (r.sl.apart j i c o p e hi (z ▸ s1) hs)
      exact ⟨q, w, s1, by rw [upd_ne hqp]; exact h1, h2, h3, h4⟩
  · have g : ∀ {j : Nat} {c : SO}, (Γ.set i (some (.own o')))[j]? = some (some (.own c)) → ∃ c', Γ[j]? = some (some (.own c')) := fun {j c} e => by
      rcases get_set_own e with ⟨rfl, rfl⟩ | ⟨_, e⟩
      · exact ⟨o, hi⟩
      · exact ⟨c, e⟩
    obtain ⟨c1, f1⟩ := g e1
    obtain ⟨c2, f2⟩ := g e2
    exact r.sl.apart j k c1 c2 q f1 f2 s1 s2
  · rcases get_set_own e1 with ⟨rfl, rfl⟩ | ⟨hj, e⟩
    · rw [hs] at e2; cases e2; exact hb
    · exact r.own j c q e e2
/-- an object of the store is written -/
theorem Sto.mut (so : StoOk K S H Hf μ) {n : Nat} {o o' : SO} {p : Addr} {u' : HO} (hn : S[n]? = some o) (hp : μ[n]? = some p) (ho : ORep K μ Hf o' u') : Step H Hf μ (upd H p u') Hf μ ∧ StoOk K (S.set n o') (upd H p u') Hf μ := by
  have hmem : p ∈ μ := List.mem_of_getElem? hp
  obtain ⟨u, hu, _⟩ := so.ob n o p hn hp
  refine ⟨⟨fun a x e m => by rw [upd_ne (show a ≠ p from fun z => m (z ▸ hmem))]; exact e, Sub.refl _, fun a h _ => h, Pre.refl _, fun a h => .inl h, fun a h => ?_⟩, ⟨fun a x e => ?_, by rw [List.length_set]; exact so.len, so.nd, fun k c a e1 e2 => ?_, so.fz⟩⟩
  · by_cases z : a = p
    · subst z; rw [upd_same]; exact fun z => nomatch z
    · rw [upd_ne z]; exact h
  · have hap : a ≠ p := fun z => by rw [z, so.fz p hmem] at e; cases e
    rw [upd_ne hap]; exact so.sub a x e
  · by_cases hk : n = k
    · subst hk
      have hl : n < S.length := (List.getElem?_eq_some_iff.mp hn).1
      rw [List.getElem?_set_self hl] at e1
      cases e1
      rw [hp] at e2
      cases e2
      exact ⟨u', upd_same, ho⟩
    · rw [List.getElem?_set_ne hk] at e1
      obtain ⟨w, h1, h2⟩ := so.ob k c a e1 e2
      have hap : a ≠ p := fun z => by
        subst z
        have hk' : k < μ.length := (List.getElem?_eq_some_iff.mp e2).1
        have hn' : n < μ.length := (List.getElem?_eq_some_iff.mp hp).1
        have g1 : μ[n] = a := by rw [List.getElem?_eq_getElem hn'] at hp; exact Option.some.inj hp
        have g2 : μ[k] = a := by rw [List.getElem?_eq_getElem hk'] at e2; exact Option.some.inj e2
        exact hk ((List.getElem_inj (h₀ := hn') (h₁ := hk') so.nd).mp (g1.trans g2.symm))
      exact ⟨w, by rw [upd_ne hap]; exact h1, h2⟩
/-- a private object comes to the store -/
theorem Sto.pub (so : StoOk K S H Hf μ) {o : SO} {p : Addr} {u : HO} (pv : Priv p u H Hf μ) (ho : ORep K μ Hf o u) : StoOk K (S ++ [o]) H Hf (μ ++ [p]) := by
  have hpre : Pre μ (μ ++ [p]) := fun n a e => by
    have hl : n < μ.length := (List.getElem?_eq_some_iff.mp e).1
    rw [List.getElem?_append_left hl]; exact e
  refine ⟨so.sub, by simp [so.len], ?_, fun n c a e1 e2 => ?_, fun a m => ?_⟩
  · rw [List.nodup_append]
    exact ⟨so.nd, by simp, fun a ha b hb => by rw [List.mem_singleton] at hb; subst hb; exact fun z => pv.nm (z ▸ ha)⟩
  · by_cases hl : n < S.length
    · rw [List.getElem?_append_left hl] at e1
      rw [List.getElem?_append_left (by rw [so.len]; exact hl)] at e2
      obtain ⟨w, h1, h2⟩ := so.ob n c a e1 e2
      exact ⟨w, h1, h2.mono (Sub.refl _) hpre⟩
    · have hn : n = S.length := by
        have : n < (S ++ [o]).length := (List.getElem?_eq_some_iff.mp e1).1
        simp at this
        omega
      subst hn
      rw [List.getElem?_append_right (Nat.le_refl _), Nat.sub_self] at e1
      rw [List.getElem?_append_right (by rw [so.len]; exact Nat.le_refl _), so.len, Nat.sub_self] at e2
      cases e1
      cases e2
      exact ⟨u, pv.at_, ho.mono (Sub.refl _) hpre⟩
  · rcases List.mem_append.mp m with m | m
    · exact so.fz a m
    · rw [List.mem_singleton] at m; subst m; exact pv.fz
theorem pre_app {μ : List Addr} {p : Addr} : Pre μ (μ ++ [p]) := fun n a e => by
  have hl : n < μ.length := (List.getElem?_eq_some_iff.mp e).1
  rw [List.getElem?_append_left hl]; exact e
theorem Step.pub {H0 Hf0 : Hp} {μ0 : List Addr} {p : Addr} (s : Step H0 Hf0 μ0 H Hf μ) (h0 : H0 p = none) : Step H0 Hf0 μ0 H Hf (μ ++ [p]) :=
  ⟨s.fr, s.fz, s.nf, s.mu.trans pre_app, fun a m => by
    rcases List.mem_append.mp m with m | m
    · exact s.nm a m
    · rw [List.mem_singleton] at m; subst m; exact .inr h0, s.th⟩
end

/-! ### ghosts: a slot's own is frozen, or comes to the store -/
def sFz (i : Nat) : Es := fun Γ S => match Γ[i]? with
  | some (some (.own (.lst ds))) => .nx (Γ.set i (some (.val (.lst ds)))) S
  | _ => .no
def sPb (i : Nat) : Es := fun Γ S => match Γ[i]? with
  | some (some (.own o)) => .nx (Γ.set i (some (.val (.loc S.length)))) (S ++ [o])
  | _ => .no
/-- a new object comes to the store at once -/
def ePb (f : Ev SO) : Ev D := fun Γ S => (f Γ S).bind fun o S1 => .ok (.loc S1.length) (S1 ++ [o])
section
variable {X : Cx} {B : Base} {W : WX} {sts : List Stmt} {f : Es} {i : Nat}
theorem set_same {σ : L2.St} {v : V} (h : σ[i]? = some (some v)) : σ.set i (some v) = σ := by
  apply List.ext_getElem?
  intro j
  by_cases hj : i = j
  · subst hj
    have hl : i < σ.length := (List.getElem?_eq_some_iff.mp h).1
    rw [List.getElem?_set_self hl, h]
  · rw [List.getElem?_set_ne hj]
theorem dss_fz (h : DSs X B W sts f) : DSs X B W sts (sSeq (sFz i) f) := fun fl ml => PSs_imp (h fl ml) fun E σ H ⟨Γ, S, Hf, μ, r, o⟩ => by
  unfold sSeq sFz at o
  cases e : Γ[i]? with
  | none => rw [e] at o; exact o.elim
  | some x =>
    cases x with
    | none => rw [e] at o; exact o.elim
    | some x =>
      cases x with
      | val d => rw [e] at o; exact o.elim
      | own c =>
        cases c with
        | lst ds =>
          rw [e] at o
          obtain ⟨p, u, s1, hp, ⟨xs, rfl, hz, rl⟩, hf, hm⟩ := r.sl.own i _ e
          obtain ⟨sb, so2⟩ := Step.frz r.so hp hf hm
          have hb := r.own i _ p e s1
          have rv : Rep X.K μ (upd Hf p (.lst xs)) (.lst ds) (.ref p) := by
            simp only [Rep]
            exact ⟨p, xs, rfl, upd_same, hz, RepL.mono sb (Pre.refl _) _ _ rl⟩
          have nf : ∀ {j : Nat} {c : SO}, (Γ.set i (some (.val (.lst ds))))[j]? = some (some (.own c)) → i ≠ j ∧ Γ[j]? = some (some (.own c)) := fun {j c} e2 => by
            by_cases hj : i = j
            · subst hj
              have hl : i < Γ.length := (List.getElem?_eq_some_iff.mp e).1
              rw [List.getElem?_set_self hl] at e2
              cases e2
            · rw [List.getElem?_set_ne hj] at e2
              exact ⟨hj, e2⟩
          refine ⟨_, S, upd Hf p (.lst xs), μ, ⟨⟨by rw [List.length_set]; exact r.sl.len, fun j d e2 => ?_, fun j c e2 => ?_, fun j k c c' q e2 e3 s2 s3 => ?_⟩, so2, ⟨r.st.fr, r.st.fz.trans sb, fun a h1 h2 => ?_, r.st.mu, r.st.nm, r.st.th⟩, fun j c q e2 s2 => r.own j c q (nf e2).2 s2, r.fz.trans sb, r.pm⟩, o⟩
          · by_cases hj : i = j
            · subst hj
              have hl : i < Γ.length := (List.getElem?_eq_some_iff.mp e).1
              rw [List.getElem?_set_self hl] at e2
              cases e2
              exact ⟨.ref p, s1, rv⟩
            · rw [List.getElem?_set_ne hj] at e2
              obtain ⟨v, h1, h2⟩ := r.sl.val j d e2
              exact ⟨v, h1, Rep.mono sb (Pre.refl _) _ _ h2⟩
          · obtain ⟨hj, e2⟩ := nf e2
            obtain ⟨q, w, s2, h1, h2, h3, h4⟩ := r.sl.own j c e2
            have hqp : q ≠ p := fun z => hj (r.sl.apart i j _ c p e e2 s1 (z ▸ s2))
            exact ⟨q, w, s2, h1, h2.mono sb (Pre.refl _), by rw [upd_ne hqp]; exact h3, h4⟩
          · exact r.sl.apart j k c c' q (nf e2).2 (nf e3).2 s2 s3
          · rw [upd_ne (show a ≠ p from fun z => h2 (z ▸ hb))]
            exact r.st.nf a h1 h2
        | _ => rw [e] at o; exact o.elim
theorem dss_pb (h : DSs X B W sts f) : DSs X B W sts (sSeq (sPb i) f) := fun fl ml => PSs_imp (h fl ml) fun E σ H ⟨Γ, S, Hf, μ, r, o⟩ => by
  unfold sSeq sPb at o
  cases e : Γ[i]? with
  | none => rw [e] at o; exact o.elim
  | some x =>
    cases x with
    | none => rw [e] at o; exact o.elim
    | some x =>
      cases x with
      | val d => rw [e] at o; exact o.elim
      | own c =>
        rw [e] at o
        obtain ⟨p, u, s1, hp, ho, hf, hm⟩ := r.sl.own i _ e
        have hb := r.own i _ p e s1
        have nf : ∀ {j : Nat} {c : SO}, (Γ.set i (some (.val (.loc S.length))))[j]? = some (some (.own c)) → i ≠ j ∧ Γ[j]? = some (some (.own c)) := fun {j c} e2 => by
          by_cases hj : i = j
          · subst hj
            have hl : i < Γ.length := (List.getElem?_eq_some_iff.mp e).1
            rw [List.getElem?_set_self hl] at e2
            cases e2
          · rw [List.getElem?_set_ne hj] at e2
            exact ⟨hj, e2⟩
        refine ⟨_, S ++ [c], Hf, μ ++ [p], ⟨⟨by rw [List.length_set]; exact r.sl.len, fun j d e2 => ?_, fun j c' e2 => ?_, fun j k c1 c2 q e2 e3 s2 s3 => ?_⟩, Sto.pub r.so ⟨hp, hf, hm⟩ ho, r.st.pub hb, fun j c q e2 s2 => r.own j c q (nf e2).2 s2, r.fz, r.pm.trans pre_app⟩, o⟩
        · by_cases hj : i = j
          · subst hj
            have hl : i < Γ.length := (List.getElem?_eq_some_iff.mp e).1
            rw [List.getElem?_set_self hl] at e2
            cases e2
            refine ⟨.ref p, s1, ?_⟩
            simp only [Rep]
            exact ⟨p, rfl, by rw [← r.so.len, List.getElem?_append_right (Nat.le_refl _), Nat.sub_self]; rfl⟩
          · rw [List.getElem?_set_ne hj] at e2
            obtain ⟨v, h1, h2⟩ := r.sl.val j d e2
            exact ⟨v, h1, Rep.mono (Sub.refl _) pre_app _ _ h2⟩
        · obtain ⟨hj, e2⟩ := nf e2
          obtain ⟨q, w, s2, h1, h2, h3, h4⟩ := r.sl.own j c' e2
          have hqp : q ≠ p := fun z => hj (r.sl.apart i j _ c' p e e2 s1 (z ▸ s2))
          exact ⟨q, w, s2, h1, h2.mono (Sub.refl _) pre_app, h3, fun m => by
            rcases List.mem_append.mp m with m | m
            · exact h4 m
            · rw [List.mem_singleton] at m; exact hqp m⟩
        · exact r.sl.apart j k c1 c2 q (nf e2).2 (nf e3).2 s2 s3
theorem de_pb {e : Expr} {fn : Ev SO} (h : DN X W e fn) : DE X W e (ePb fn) := PE_imp h fun σ H Q ⟨Γ, S, Hf, μ, sl, so, o⟩ => ⟨Γ, S, Hf, μ, sl, so, by
  unfold ePb at o
  cases e1 : fn Γ S with
  | no => rw [e1] at o; exact o
  | ex C fs S1 => rw [e1] at o; exact o
  | ok d S1 =>
    rw [e1, RE.bind_ok] at o
    intro v H1 Hf1 μ1 s1 so1 r1
    obtain ⟨p, u, rfl, hn, hp, ho, hf, hm⟩ := r1
    refine o (.ref p) H1 Hf1 (μ1 ++ [p]) (s1.pub hn) (Sto.pub so1 ⟨hp, hf, hm⟩ ho) ?_
    simp only [Rep]
    exact ⟨p, rfl, by rw [← so1.len, List.getElem?_append_right (Nat.le_refl _), Nat.sub_self]; rfl⟩⟩
end

/-! ### methods that change a slot's own -/
def isL : SO → Bool
  | .lst _ => true
  | _ => false
/-- with a value -/
def sMu (i : Nat) (m : SO → D → Option SO) (f : Ev D) : Es := fun Γ S => match Γ[i]? with
  | some (some (.own (.lst ds))) => bindS Γ (f Γ S) fun d S1 => match m (.lst ds) d with
    | some o' => .nx (Γ.set i (some (.own o'))) S1
    | none => .no
  | _ => .no
/-- the method's rule keeps the object's reading; b: the argument is only read -/
def MuR (K : PySem.W.Frag) (b : Bool) (r : V → List V → Hp → VK → Prop) (m : SO → D → Option SO) : Prop := ∀ (S : Store) (H Hf : Hp) (μ : List Addr) (p : Addr) (x : V) (u : HO) (o o' : SO) (d : D) (Q : VK), StoOk K S H Hf μ → H p = some u → ORep K μ Hf o u →
  (if b = true then Bor K H Hf μ d x else Rep K μ Hf d x) → m o d = some o' → (∀ u', ORep K μ Hf o' u' → Q .non (upd H p u')) → r (.ref p) [x] H Q
def tX (b : Bool) (K : PySem.W.Frag) (W : WX) (f : Ev D) : TE := if b = true then tBo K W f else tE K W f
abbrev DX (b : Bool) (X : Cx) (W : WX) (e : Expr) (f : Ev D) : Prop := PE X e (tX b X.K W f)
def XR (b : Bool) (K : PySem.W.Frag) (σ : L2.St) (Γ : Gm) : RR D V := if b = true then BorR K σ Γ else RepR K
theorem rm_x {b : Bool} {K : PySem.W.Frag} {σ : L2.St} {Γ : Gm} : RMono (XR b K σ Γ) := by
  cases b
  · exact rm_rep
  · exact rm_bor
theorem tX_of {b : Bool} {K : PySem.W.Frag} {W : WX} {f : Ev D} {σ : L2.St} {H : Hp} {Q : VK} (h : ∃ Γ S Hf μ, SlOk K Γ σ H Hf μ ∧ StoOk K S H Hf μ ∧ Out K (XR b K σ Γ) W σ H Hf μ (f Γ S) Q) : tX b K W f σ H Q := by
  cases b
  · exact h
  · exact h
theorem XR.at {b : Bool} {K : PySem.W.Frag} {Γ : Gm} {σ : L2.St} {H0 H Hf : Hp} {μ : List Addr} {d : D} {v : V} (sl : SlOk K Γ σ H Hf μ) (r : XR b K σ Γ H0 H Hf μ d v) : if b = true then Bor K H Hf μ d v else Rep K μ Hf d v := by
  cases b
  · exact r
  · exact BorR.bor (H0 := H0) sl r
section
variable {X : Cx} {B : Base} {W : WX} {e : Expr} {es : List Expr} {f : Ev D} {x : PySem.Str} {np apos cpos pos : Pos} {id : String} {name : PySem.Str} {r : V → List V → Hp → VK → Prop} {m : SO → D → Option SO}
theorem tyv_l {K : PySem.W.Frag} {H : Hp} {p : Addr} {xs : List V} (hp : H p = some (.lst xs)) : tyV K "list" (.ref p) H := .inl ⟨rfl, xs, SqL.of hp⟩
theorem ds_mu (b : Bool) (i : Nat) (slot : Slot "list" name id) (hty : typeOf (.builtin id) = pure (.type "method_descriptor")) (hm : MtR X id r) (hmu : MuR X.K b r m) (he : DX b X W e f)
    (hN : X.N[i]? = some x := by rfl) (hv : Vis X.env.scope x := by first | exact Or.inl rfl | exact Or.inr (Or.inl rfl) | exact Or.inr (Or.inr rfl)) (hd : (x == ("__debug__" : PySem.Str)) = false := by decide) (hcd : (x == ("__classdict__" : PySem.Str)) = false := by decide)
    (hbase : attributeBase (.Name x np) name X.env (eval (.Name x np) X.env) = eval (.Name x np) X.env := by rfl)
    (hfew : ((backTo cpos (starEach [e] X.env)).all (fun x => !x.1) && (backToKw cpos (keywordEach [] X.env)).all (fun x => x.1.isSome)
      && decide (([e] : List Expr).length + ([] : List Keyword).length + (if ([] : List Keyword).isEmpty then 0 else 1) < 30)) = true := by rfl)
    (hline : (apos.endLine == cpos.line) = true := by rfl) (hs : starEach [e] X.env = (false, eval e X.env) :: starEach [] X.env := by rfl)
    (hsw : swapsWith (.Call (.Attribute (.Name x np) name apos) [e] [] cpos) none pos.line X.env = pure false := by rfl) :
    DS X B W (.Expr (.Call (.Attribute (.Name x np) name apos) [e] [] cpos) pos) (sMu i m f) := by
  intro fl ml
  refine PS_imp (ps_expr (pe_bm PySem.F.plainAttrs_list slot hty hm (pe_var (i := i) hN hv hd hcd) (pa_cons he pa_nil hs) hbase hfew hline hs rfl) hsw) fun E σ H ⟨Γ, S, Hf, μ, rl, o⟩ => ?_
  unfold sMu at o
  split at o
  next ds e1 =>
    obtain ⟨p, u, s1, hp, ⟨xs, rfl, hz, rx⟩, hf, hm'⟩ := rl.sl.own i _ e1
    refine ⟨.ref p, s1, tyv_l hp, tX_of ⟨Γ, S, Hf, μ, rl.sl, rl.so, SOut.bind rl o fun d S1 v H1 Hf1 μ1 _ st r1 re o1 => ?_⟩⟩
    obtain ⟨p', u', s1', hp', ho', hf', hm2⟩ := r1.sl.own i _ e1
    rw [s1] at s1'
    cases s1'
    cases e2 : m (.lst ds) d with
    | none => simp only [e2] at o1; exact o1.elim
    | some o2 =>
      simp only [e2] at o1
      exact hmu S1 H1 Hf1 μ1 p v u' _ o2 d _ r1.so hp' ho' (XR.at r1.sl re) e2 fun u2 h2 => o1 _ _ _ _ (r1.mut e1 s1 hp' hf' hm2 h2)
  next => exact o.elim
def mApp : SO → D → Option SO := fun o d => match o with
  | .lst ds => if ds.length < sizeLine then some (.lst (ds ++ [d])) else none
  | _ => none
theorem mu_app {K : PySem.W.Frag} : MuR K false rAppend mApp := fun S H Hf μ p x u o o' d Q so hp ho rx e k => by
  cases o <;> first | (cases e; done) | skip
  rename_i ds
  obtain ⟨xs, rfl, hz, rl⟩ := ho
  have e : (if ds.length < sizeLine then some (SO.lst (ds ++ [d])) else none) = some o' := e
  split at e
  next h =>
    cases e
    refine ⟨p, xs, x, rfl, rfl, hp, by rw [rl.length]; exact h, k _ ⟨_, rfl, ?_, RepL.append rl (RepL.cons rx RepL.nil)⟩⟩
    rw [List.length_append, rl.length]
    exact h
  · cases e
def mExt : SO → D → Option SO := fun o d => match o, d with
  | .lst ds, .lst es => if ds.length + es.length ≤ sizeLine then some (.lst (ds ++ es)) else none
  | _, _ => none
theorem mu_ext {K : PySem.W.Frag} : MuR K true rExtend mExt := fun S H Hf μ p x u o o' d Q so hp ho rx e k => by
  cases o <;> first | (cases e; done) | skip
  cases d <;> first | (cases e; done) | skip
  rename_i ds es
  obtain ⟨xs, rfl, hz, rl⟩ := ho
  have e : (if ds.length + es.length ≤ sizeLine then some (SO.lst (ds ++ es)) else none) = some o' := e
  split at e
  next h =>
    cases e
    have rx : Bor K H Hf μ (.lst es) x := rx
    obtain ⟨a, ys, rfl, ha, hz2, rl2⟩ := rx.lst so
    refine ⟨p, a, xs, ys, rfl, rfl, hp, ha, by rw [rl.length, rl2.length]; exact h, k _ ⟨_, rfl, ?_, RepL.append rl rl2⟩⟩
    rw [List.length_append, rl.length, rl2.length]
    exact h
  · cases e
theorem ds_app (i : Nat) (he : DE X W e f) (hN : X.N[i]? = some x := by rfl) (hv : Vis X.env.scope x := by first | exact Or.inl rfl | exact Or.inr (Or.inl rfl) | exact Or.inr (Or.inr rfl)) (hd : (x == ("__debug__" : PySem.Str)) = false := by decide) (hcd : (x == ("__classdict__" : PySem.Str)) = false := by decide)
    (hbase : attributeBase (.Name x np) "append" X.env (eval (.Name x np) X.env) = eval (.Name x np) X.env := by rfl)
    (hfew : ((backTo cpos (starEach [e] X.env)).all (fun x => !x.1) && (backToKw cpos (keywordEach [] X.env)).all (fun x => x.1.isSome)
      && decide (([e] : List Expr).length + ([] : List Keyword).length + (if ([] : List Keyword).isEmpty then 0 else 1) < 30)) = true := by rfl)
    (hline : (apos.endLine == cpos.line) = true := by rfl) (hs : starEach [e] X.env = (false, eval e X.env) :: starEach [] X.env := by rfl)
    (hsw : swapsWith (.Call (.Attribute (.Name x np) "append" apos) [e] [] cpos) none pos.line X.env = pure false := by rfl) :
    DS X B W (.Expr (.Call (.Attribute (.Name x np) "append" apos) [e] [] cpos) pos) (sMu i mApp f) :=
  ds_mu false i PySem.F.slot_list_append PySem.F.type_list_append mt_append mu_app he hN hv hd hcd hbase hfew hline hs hsw
theorem ds_ext (i : Nat) (he : DB X W e f) (hN : X.N[i]? = some x := by rfl) (hv : Vis X.env.scope x := by first | exact Or.inl rfl | exact Or.inr (Or.inl rfl) | exact Or.inr (Or.inr rfl)) (hd : (x == ("__debug__" : PySem.Str)) = false := by decide) (hcd : (x == ("__classdict__" : PySem.Str)) = false := by decide)
    (hbase : attributeBase (.Name x np) "extend" X.env (eval (.Name x np) X.env) = eval (.Name x np) X.env := by rfl)
    (hfew : ((backTo cpos (starEach [e] X.env)).all (fun x => !x.1) && (backToKw cpos (keywordEach [] X.env)).all (fun x => x.1.isSome)
      && decide (([e] : List Expr).length + ([] : List Keyword).length + (if ([] : List Keyword).isEmpty then 0 else 1) < 30)) = true := by rfl)
    (hline : (apos.endLine == cpos.line) = true := by rfl) (hs : starEach [e] X.env = (false, eval e X.env) :: starEach [] X.env := by rfl)
    (hsw : swapsWith (.Call (.Attribute (.Name x np) "extend" apos) [e] [] cpos) none pos.line X.env = pure false := by rfl) :
    DS X B W (.Expr (.Call (.Attribute (.Name x np) "extend" apos) [e] [] cpos) pos) (sMu i mExt f) :=
  ds_mu true i PySem.F.slot_list_extend PySem.F.type_list_extend mt_extend mu_ext he hN hv hd hcd hbase hfew hline hs hsw
/-- o.append(e), o a list of the store -/
def sLApp (g f : Ev D) : Es := fun Γ S => bindS Γ (g Γ S) fun o S1 => match o with
  | .loc n => match S1[n]? with
    | some (.lst _) => bindS Γ (f Γ S1) fun d S2 => match S2[n]? with
      | some (.lst ds) => if ds.length < sizeLine then .nx Γ (S2.set n (.lst (ds ++ [d]))) else .no
      | _ => .no
    | _ => .no
  | _ => .no
theorem ds_lapp {o : Expr} {g : Ev D} (ho : DE X W o g) (he : DE X W e f) 
    (hbase : attributeBase o "append" X.env (eval o X.env) = eval o X.env := by rfl)
    (hfew : ((backTo cpos (starEach [e] X.env)).all (fun x => !x.1) && (backToKw cpos (keywordEach [] X.env)).all (fun x => x.1.isSome)
      && decide (([e] : List Expr).length + ([] : List Keyword).length + (if ([] : List Keyword).isEmpty then 0 else 1) < 30)) = true := by rfl)
    (hline : (apos.endLine == cpos.line) = true := by rfl) (hs : starEach [e] X.env = (false, eval e X.env) :: starEach [] X.env := by rfl)
    (hsw : swapsWith (.Call (.Attribute o "append" apos) [e] [] cpos) none pos.line X.env = pure false := by rfl) :
    DS X B W (.Expr (.Call (.Attribute o "append" apos) [e] [] cpos) pos) (sLApp g f) := by
  intro fl ml
  refine PS_imp (ps_expr (pe_bm PySem.F.plainAttrs_list PySem.F.slot_list_append PySem.F.type_list_append mt_append ho (pa_cons he pa_nil hs) hbase hfew hline hs rfl) hsw) fun E σ H ⟨Γ, S, Hf, μ, rl, o⟩ => ?_
  refine ⟨Γ, S, Hf, μ, rl.sl, rl.so, SOut.bind rl o fun d S1 v H1 Hf1 μ1 _ st r1 re o1 => ?_⟩
  cases d <;> first | exact o1.elim | skip
  rename_i n _
  cases e1 : S1[n]? with
  | none => simp only [e1] at o1; exact o1.elim
  | some c =>
    cases c <;> first | (simp only [e1] at o1; exact o1.elim) | skip
    simp only [e1] at o1
    simp only [Rep] at re
    obtain ⟨p, rfl, hp⟩ := re
    obtain ⟨u, hu, ⟨xs, rfl, hz, rx⟩⟩ := r1.so.ob n _ p e1 hp
    refine ⟨tyv_l hu, Γ, S1, Hf1, μ1, r1.sl, r1.so, SOut.bind r1 o1 fun d2 S2 v2 H2 Hf2 μ2 _ st2 r2 re2 o2 => ?_⟩
    cases e2 : S2[n]? with
    | none => simp only [e2] at o2; exact o2.elim
    | some c2 =>
      cases c2 <;> first | (simp only [e2] at o2; exact o2.elim) | skip
      rename_i ds
      simp only [e2] at o2
      split at o2
      next h =>
        have hp2 := st2.mu n p hp
        obtain ⟨u2, hu2, ⟨ys, rfl, hz2, ry⟩⟩ := r2.so.ob n _ p e2 hp2
        have hor : ORep X.K μ2 Hf2 (.lst (ds ++ [d2])) (.lst (ys ++ [v2])) := ⟨_, rfl, by rw [List.length_append, ry.length]; exact h, RepL.append ry (RepL.cons re2 RepL.nil)⟩
        obtain ⟨s3, so3⟩ := Sto.mut r2.so e2 hp2 hor
        exact ⟨p, ys, v2, rfl, rfl, hu2, by rw [ry.length]; exact h, o2 _ _ _ _ (r2.step s3 so3)⟩
      · exact o2.elim
/-- o.clear(), o a list of the store -/
def sLClr (g : Ev D) : Es := fun Γ S => bindS Γ (g Γ S) fun o S1 => match o with
  | .loc n => match S1[n]? with
    | some (.lst _) => .nx Γ (S1.set n (.lst []))
    | _ => .no
  | _ => .no
theorem ds_lclr {o : Expr} {g : Ev D} (ho : DE X W o g) (hbase : attributeBase o "clear" X.env (eval o X.env) = eval o X.env := by rfl) (hline : (apos.endLine == cpos.line) = true := by rfl)
    (hsw : swapsWith (.Call (.Attribute o "clear" apos) [] [] cpos) none pos.line X.env = pure false := by rfl) :
    DS X B W (.Expr (.Call (.Attribute o "clear" apos) [] [] cpos) pos) (sLClr g) := by
  intro fl ml
  refine PS_imp (ps_expr (pe_bm0 PySem.F.plainAttrs_list PySem.F.slot_list_clear PySem.F.type_list_clear mt_clear ho hbase hline) hsw) fun E σ H ⟨Γ, S, Hf, μ, rl, o⟩ => ?_
  refine ⟨Γ, S, Hf, μ, rl.sl, rl.so, SOut.bind rl o fun d S1 v H1 Hf1 μ1 _ st r1 re o1 => ?_⟩
  cases d <;> first | exact o1.elim | skip
  rename_i n _
  cases e1 : S1[n]? with
  | none => simp only [e1] at o1; exact o1.elim
  | some c =>
    cases c <;> first | (simp only [e1] at o1; exact o1.elim) | skip
    simp only [e1] at o1
    simp only [Rep] at re
    obtain ⟨p, rfl, hp⟩ := re
    obtain ⟨u, hu, ⟨xs, rfl, hz, rx⟩⟩ := r1.so.ob n _ p e1 hp
    obtain ⟨s3, so3⟩ := Sto.mut (o' := .lst []) (u' := .lst []) r1.so e1 hp ⟨[], rfl, Nat.zero_le _, RepL.nil⟩
    exact ⟨tyv_l hu, p, xs, rfl, rfl, hu, o1 _ _ _ _ (r1.step s3 so3)⟩
end
end DL
set_option Elab.async false
set_option linter.all false
set_option maxRecDepth 100000
/-! DLj: dicts, stores by place, unpacking, chained comparisons, several names at once. -/
namespace DL
open PySem PySem.Spec PyProof.Rows L2

/-! ### the object at a slot: its own, or the store's -/
def curO (Γ : Gm) (S : Store) (i : Nat) : Option SO := match Γ[i]? with
  | some (some (.own o)) => some o
  | some (some (.val (.loc n))) => S[n]?
  | _ => none
def putO (Γ : Gm) (S : Store) (i : Nat) (o' : SO) : Gm × Store := match Γ[i]? with
  | some (some (.own _)) => (Γ.set i (some (.own o')), S)
  | some (some (.val (.loc n))) => (Γ, S.set n o')
  | _ => (Γ, S)
section
variable {K : PySem.W.Frag} {B : Base} {Γ : Gm} {S : Store} {σ : L2.St} {H Hf : Hp} {μ : List Addr} {o o' : SO} {i : Nat}
theorem cur_ok (sl : SlOk K Γ σ H Hf μ) (so : StoOk K S H Hf μ) (h : curO Γ S i = some o) : ∃ p u, σ[i]? = some (some (V.ref p)) ∧ H p = some u ∧ ORep K μ Hf o u := by
  unfold curO at h
  split at h
  next o1 e =>
    cases h
    obtain ⟨p, u, e1, e2, e3, _⟩ := sl.own i o e
    exact ⟨p, u, e1, e2, e3⟩
  next n e =>
    obtain ⟨v, e1, r⟩ := sl.val i _ e
    simp only [Rep] at r
    obtain ⟨p, rfl, hp⟩ := r
    obtain ⟨u, h1, h2⟩ := so.ob n o p h hp
    exact ⟨p, u, e1, h1, h2⟩
  · cases h
theorem put_ok (r : Rl K B Γ S σ H Hf μ) (h : curO Γ S i = some o) {p : Addr} (hs : σ[i]? = some (some (V.ref p))) {u' : HO} (ho : ORep K μ Hf o' u') : Rl K B (putO Γ S i o').1 (putO Γ S i o').2 σ (upd H p u') Hf μ := by
  unfold curO at h
  unfold putO
  split at h
  next o1 e =>
    cases h
    simp only [e]
    obtain ⟨q, u, e1, e2, e3, e4, e5⟩ := r.sl.own i o e
    rw [hs] at e1
    cases e1
    exact r.mut e hs e2 e4 e5 ho
  next n e =>
    simp only [e]
    obtain ⟨v, e1, rv⟩ := r.sl.val i _ e
    rw [hs] at e1
    cases e1
    simp only [Rep] at rv
    obtain ⟨q, e2, hp⟩ := rv
    cases e2
    obtain ⟨st, so⟩ := Sto.mut r.so h hp ho
    exact r.step st so
  · cases h
end

/-! ### dicts -/
def valD {κ : Type} [DecidableEq κ] (kvs : List (κ × D)) (k : κ) : Option D := (kvs.find? fun kv => decide (kv.1 = k)).map (·.2)
def putD {κ : Type} [DecidableEq κ] (kvs : List (κ × D)) (k : κ) (v : D) : List (κ × D) :=
  if (kvs.any fun kv => decide (kv.1 = k)) = true then kvs.map (fun kv => if kv.1 = k then (kv.1, v) else kv) else kvs ++ [(k, v)]
section
variable {K : PySem.W.Frag} {S : Store} {H Hf : Hp} {μ : List Addr}
theorem KRep.length {κ : Type} : ∀ {ks : List (κ × D)} {xs : List (κ × V)}, KRep K μ Hf ks xs → xs.length = ks.length
  | [], xs, h => by rw [show xs = [] from h]; rfl
  | (k, d) :: ks, xs, h => by
    obtain ⟨x, r, rfl, _, t⟩ := h
    simp [KRep.length t]
theorem KRep.val {κ : Type} [DecidableEq κ] {k : κ} : ∀ {ks : List (κ × D)} {xs : List (κ × V)}, KRep K μ Hf ks xs → (valD ks k = none ∧ valV xs k = none) ∨ ∃ d v, valD ks k = some d ∧ valV xs k = some v ∧ Rep K μ Hf d v
  | [], xs, h => by rw [show xs = [] from h]; exact .inl ⟨rfl, rfl⟩
  | (c, d) :: ks, xs, h => by
    obtain ⟨x, r, rfl, q, t⟩ := h
    unfold valD valV
    by_cases e : c = k
    · rw [List.find?_cons_of_pos (by simpa using e), List.find?_cons_of_pos (by simpa using e)]
      exact .inr ⟨d, x, rfl, rfl, q⟩
    · rw [List.find?_cons_of_neg (by simpa using e), List.find?_cons_of_neg (by simpa using e)]
      exact KRep.val t
theorem KRep.any {κ : Type} [DecidableEq κ] {k : κ} : ∀ {ks : List (κ × D)} {xs : List (κ × V)}, KRep K μ Hf ks xs → (xs.any fun kv => decide (kv.1 = k)) = ks.any fun kv => decide (kv.1 = k)
  | [], xs, h => by rw [show xs = [] from h]; rfl
  | (c, d) :: ks, xs, h => by
    obtain ⟨x, r, rfl, q, t⟩ := h
    simp only [List.any_cons, KRep.any t]
theorem KRep.map {κ : Type} [DecidableEq κ] {k : κ} {c : D} {v : V} (hv : Rep K μ Hf c v) : ∀ {ks : List (κ × D)} {xs : List (κ × V)}, KRep K μ Hf ks xs → KRep K μ Hf (ks.map fun kv => if kv.1 = k then (kv.1, c) else kv) (xs.map fun kv => if kv.1 = k then (kv.1, v) else kv)
  | [], xs, h => by rw [show xs = [] from h]; rfl
  | (a, d) :: ks, xs, h => by
    obtain ⟨x, r, rfl, q, t⟩ := h
    simp only [List.map_cons]
    by_cases e : a = k
    · rw [if_pos e, if_pos e]; exact ⟨v, _, rfl, hv, KRep.map hv t⟩
    · rw [if_neg e, if_neg e]; exact ⟨x, _, rfl, q, KRep.map hv t⟩
theorem KRep.snoc {κ : Type} {k : κ} {c : D} {v : V} (hv : Rep K μ Hf c v) : ∀ {ks : List (κ × D)} {xs : List (κ × V)}, KRep K μ Hf ks xs → KRep K μ Hf (ks ++ [(k, c)]) (xs ++ [(k, v)])
  | [], xs, h => by rw [show xs = [] from h]; exact ⟨v, [], rfl, hv, rfl⟩
  | (a, d) :: ks, xs, h => by
    obtain ⟨x, r, rfl, q, t⟩ := h
    exact ⟨x, _, rfl, q, KRep.snoc hv t⟩
theorem KRep.put {κ : Type} [DecidableEq κ] {k : κ} {c : D} {v : V} {ks : List (κ × D)} {xs : List (κ × V)} (hv : Rep K μ Hf c v) (h : KRep K μ Hf ks xs) : KRep K μ Hf (putD ks k c) (putK xs k v) := by
  unfold putD putK
  rw [h.any]
  split
  · exact h.map hv
  · exact h.snoc hv
/-- what stands in a dict at d -/
def dAt (o : SO) (d : D) : Option (Option D) := match o, d with
  | .dT kvs, .tup ds => (keysOf ds).map fun k => valD kvs k
  | .dK kvs, d => (keyOf d).map fun k => valD kvs k
  | _, _ => none
def dPut (o : SO) (d v : D) : Option SO := match o, d with
  | .dT kvs, .tup ds => if kvs.length < sizeLine then (keysOf ds).map fun k => .dT (putD kvs k v) else none
  | .dK kvs, d => if kvs.length < sizeLine then (keyOf d).map fun k => .dK (putD kvs k v) else none
  | _, _ => none
theorem key_rep {d : D} {k : Key} {x : V} (h : keyOf d = some k) (r : Rep K μ Hf d x) : x = kV k := by
  cases d <;> first | (cases h; done) | skip
  all_goals
    cases h
    simp only [Rep] at r
    exact r
theorem keys_rep : ∀ {ds : List D} {ks : List Key} {xs : List V}, keysOf ds = some ks → RepL K μ Hf ds xs → xs = ks.map kV
  | [], ks, xs, h, r => by simp only [RepL] at r; cases h; subst r; rfl
  | d :: ds, ks, xs, h, r => by
    simp only [RepL] at r
    obtain ⟨x, ys, rfl, q, t⟩ := r
    simp only [keysOf] at h
    cases e1 : keyOf d with
    | none => rw [e1] at h; cases h
    | some k =>
      cases e2 : keysOf ds with
      | none => rw [e1, e2] at h; cases h
      | some ks' =>
        rw [e1, e2] at h
        cases h
        rw [key_rep e1 q, keys_rep e2 t]
        rfl
theorem dAt_ok (so : StoOk K S H Hf μ) {a : Addr} {u : HO} {o : SO} {d : D} {y : V} {r : Option D} (ha : H a = some u) (ho : ORep K μ Hf o u) (hy : Rep K μ Hf d y) (h : dAt o d = some r) :
    ∃ r', DGet H a y r' ∧ ((r = none ∧ r' = none) ∨ ∃ c v, r = some c ∧ r' = some v ∧ Rep K μ Hf c v) := by
  unfold dAt at h
  split at h
  next kvs ds =>
    obtain ⟨xs, rfl, rk⟩ := ho
    cases e : keysOf ds with
    | none => rw [e] at h; cases h
    | some k =>
      rw [e] at h
      cases h
      simp only [Rep] at hy
      obtain ⟨b, ys, rfl, hb, _, rl⟩ := hy
      have hys := keys_rep e rl
      subst hys
      refine ⟨valV xs k, .inr ⟨xs, k, b, .inl ha, rfl, so.sub _ _ hb, rfl⟩, ?_⟩
      rcases rk.val (k := k) with ⟨h1, h2⟩ | ⟨c, v, h1, h2, h3⟩
      · exact .inl ⟨h1, h2⟩
      · exact .inr ⟨c, v, h1, h2, h3⟩
  next kvs =>
    obtain ⟨xs, rfl, rk⟩ := ho
    cases e : keyOf d with
    | none => rw [e] at h; cases h
    | some k =>
      rw [e] at h
      cases h
      refine ⟨valV xs k, .inl ⟨xs, k, .inl ha, key_rep e hy, rfl⟩, ?_⟩
      rcases rk.val (k := k) with ⟨h1, h2⟩ | ⟨c, v, h1, h2, h3⟩
      · exact .inl ⟨h1, h2⟩
      · exact .inr ⟨c, v, h1, h2, h3⟩
  · cases h
theorem dPut_ok (so : StoOk K S H Hf μ) {a : Addr} {u : HO} {o o' : SO} {d c : D} {y v : V} (ha : H a = some u) (ho : ORep K μ Hf o u) (hy : Rep K μ Hf d y) (hv : Rep K μ Hf c v) (h : dPut o d c = some o') :
    ∃ u', DPut H a y v (upd H a u') ∧ ORep K μ Hf o' u' := by
  unfold dPut at h
  split at h
  next kvs ds =>
    obtain ⟨xs, rfl, rk⟩ := ho
    split at h
    next hz =>
      cases e : keysOf ds with
      | none => rw [e] at h; cases h
      | some k =>
        rw [e] at h
        cases h
        simp only [Rep] at hy
        obtain ⟨b, ys, rfl, hb, _, rl⟩ := hy
        have hys := keys_rep e rl
        subst hys
        exact ⟨_, .inr ⟨xs, k, b, ha, rfl, so.sub _ _ hb, by rw [rk.length]; exact hz, rfl⟩, ⟨_, rfl, rk.put hv⟩⟩
    · cases h
  next kvs =>
    obtain ⟨xs, rfl, rk⟩ := ho
    split at h
    next hz =>
      cases e : keyOf d with
      | none => rw [e] at h; cases h
      | some k =>
        rw [e] at h
        cases h
        exact ⟨_, .inl ⟨xs, k, ha, key_rep e hy, by rw [rk.length]; exact hz, rfl⟩, ⟨_, rfl, rk.put hv⟩⟩
    · cases h
  · cases h
end
/-- d[k], k in d, d[k] = v; the dict at the slot i -/
def eDGet (i : Nat) (f : Ev D) : Ev D := fun Γ S => match curO Γ S i with
  | some _ => (f Γ S).bind fun k S1 => match curO Γ S1 i with
    | some o => match dAt o k with
      | some (some c) => .ok c S1
      | _ => .no
    | none => .no
  | none => .no
def bDIn (neg : Bool) (i : Nat) (f : Ev D) : Ev Bool := fun Γ S => (f Γ S).bind fun k S1 => match curO Γ S1 i with
  | some o => match dAt o k with
    | some r => .ok (if neg then !r.isSome else r.isSome) S1
    | _ => .no
  | none => .no
def sDPut (i : Nat) (fk fv : Ev D) : Es := fun Γ S => bindS Γ (fv Γ S) fun v S1 => match curO Γ S1 i with
  | some _ => bindS Γ (fk Γ S1) fun k S2 => match curO Γ S2 i with
    | some o => match dPut o k v with
      | some o' => .nx (putO Γ S2 i o').1 (putO Γ S2 i o').2
      | none => .no
    | none => .no
  | none => .no
/-- len(d) -/
def eDLen (i : Nat) : Ev D := fun Γ S => match curO Γ S i with
  | some (.dT kvs) => .ok (.int (kvs.length : Nat)) S
  | _ => .no
def nDT : Ev SO := fun _ S => .ok (.dT []) S
def nDK : Ev SO := fun _ S => .ok (.dK []) S
section
variable {X : Cx} {B : Base} {W : WX} {e : Expr} {fk fv : Ev D} {x : PySem.Str} {np pos p2 lp : Pos}
theorem dn_dT : DN X W (.Dict [] [] pos) nDT := PE_imp pe_dnewT fun σ H Q ⟨Γ, S, Hf, μ, sl, so, o⟩ p hp => by
  obtain ⟨st, so2, hf, hm⟩ := Step.layN (u := .dT []) so hp
  exact o _ _ _ μ st so2 ⟨p, _, rfl, hp, upd_same, ⟨[], rfl, rfl⟩, hf, hm⟩
theorem dn_dK : DN X W (.Dict [] [] pos) nDK := PE_imp pe_dnewK fun σ H Q ⟨Γ, S, Hf, μ, sl, so, o⟩ p hp => by
  obtain ⟨st, so2, hf, hm⟩ := Step.layN (u := .dK []) so hp
  exact o _ _ _ μ st so2 ⟨p, _, rfl, hp, upd_same, ⟨[], rfl, rfl⟩, hf, hm⟩
theorem de_dget (i : Nat) (hu : X.A.units + 1 < cLine) (he : DE X W e fk) (hs : NoSl e := by intro _ _; rfl) (hN : X.N[i]? = some x := by rfl) (hv : Vis X.env.scope x := by first | exact Or.inl rfl | exact Or.inr (Or.inl rfl) | exact Or.inr (Or.inr rfl))
    (hd : (x == ("__debug__" : PySem.Str)) = false := by decide) (hcd : (x == ("__classdict__" : PySem.Str)) = false := by decide) : DE X W (.Subscript (.Name x np) e pos) (eDGet i fk) :=
  PE_imp (pe_dget hu (pe_var (i := i) hN hv hd hcd) he hs) fun σ H Q ⟨Γ, S, Hf, μ, sl, so, o⟩ => by
    unfold eDGet at o
    cases e0 : curO Γ S i with
    | none => rw [e0] at o; exact o.elim
    | some o0 =>
      simp only [e0] at o
      obtain ⟨p, u, e1, e2, e3⟩ := cur_ok sl so e0
      refine ⟨.ref p, e1, Γ, S, Hf, μ, sl, so, Out.bind sl rm_rep o fun k S1 y H1 Hf1 μ1 _ s1 sl1 so1 r1 o1 => ?_⟩
      cases e4 : curO Γ S1 i with
      | none => simp only [e4] at o1; exact o1.elim
      | some o4 =>
        simp only [e4] at o1
        obtain ⟨p', u', e1', e2', e3'⟩ := cur_ok sl1 so1 e4
        rw [e1] at e1'
        cases e1'
        cases e5 : dAt o4 k with
        | none => simp only [e5] at o1; exact o1.elim
        | some r =>
          cases r with
          | none => simp only [e5] at o1; exact o1.elim
          | some c =>
            simp only [e5] at o1
            obtain ⟨r', g, h | ⟨c', v, h1, rfl, h3⟩⟩ := dAt_ok so1 e2' e3' r1 e5
            · cases h.1
            · cases h1
              exact ⟨p, v, rfl, g, o1 v H1 Hf1 μ1 (Step.refl _ _ _) so1 h3⟩
theorem tB_din {K : PySem.W.Frag} (neg : Bool) (i : Nat) {σ : L2.St} {H : Hp} {Q : Bool → Hp → Prop} (q : tT K W (bDIn neg i fk) σ H Q) :
    tE K W fk σ H fun y H1 => tVar i σ H1 fun x H2 => ∃ a o, x = .ref a ∧ DGet H2 a y o ∧ ∃ c, V.bl (if neg then !o.isSome else o.isSome) = .bl c ∧ Q c H2 := by
  obtain ⟨Γ, S, Hf, μ, sl, so, o⟩ := q
  refine ⟨Γ, S, Hf, μ, sl, so, Out.bind sl rm_eq o fun k S1 y H1 Hf1 μ1 _ s1 sl1 so1 r1 o1 => ?_⟩
  cases e4 : curO Γ S1 i with
  | none => simp only [e4] at o1; exact o1.elim
  | some o4 =>
    simp only [e4] at o1
    obtain ⟨p, u, e1, e2, e3⟩ := cur_ok sl1 so1 e4
    cases e5 : dAt o4 k with
    | none => simp only [e5] at o1; exact o1.elim
    | some r =>
      simp only [e5] at o1
      obtain ⟨r', g, h⟩ := dAt_ok so1 e2 e3 r1 e5
      have er : r.isSome = r'.isSome := by
        rcases h with ⟨rfl, rfl⟩ | ⟨c, v, rfl, rfl, _⟩ <;> rfl
      refine ⟨.ref p, e1, p, r', rfl, g, _, rfl, ?_⟩
      rw [er] at o1
      exact o1 _ H1 Hf1 μ1 (Step.refl _ _ _) so1 rfl
theorem dt_din (i : Nat) (hu : X.A.units + 1 < cLine) (he : DE X W e fk) (hN : X.N[i]? = some x := by rfl) (hv : Vis X.env.scope x := by first | exact Or.inl rfl | exact Or.inr (Or.inl rfl) | exact Or.inr (Or.inr rfl))
    (hd : (x == ("__debug__" : PySem.Str)) = false := by decide) (hcd : (x == ("__classdict__" : PySem.Str)) = false := by decide) : DT X W (.Compare e [.In] [.Name x np] pos) (bDIn false i fk) :=
  PT_imp (pt_cmp (pc_din hu he (pe_var (i := i) hN hv hd hcd))) fun σ H Q q => tB_din false i q
theorem dt_dnin (i : Nat) (hu : X.A.units + 1 < cLine) (he : DE X W e fk) (hN : X.N[i]? = some x := by rfl) (hv : Vis X.env.scope x := by first | exact Or.inl rfl | exact Or.inr (Or.inl rfl) | exact Or.inr (Or.inr rfl))
    (hd : (x == ("__debug__" : PySem.Str)) = false := by decide) (hcd : (x == ("__classdict__" : PySem.Str)) = false := by decide) : DT X W (.Compare e [.NotIn] [.Name x np] pos) (bDIn true i fk) :=
  PT_imp (pt_cmp (pc_dnotin hu he (pe_var (i := i) hN hv hd hcd))) fun σ H Q q => tB_din true i q
theorem ds_dput (i : Nat) {ek ev : Expr} (hu : X.A.units + 1 < cLine) (hk : DE X W ek fk) (hval : DE X W ev fv) (hN : X.N[i]? = some x := by rfl) (hv : Vis X.env.scope x := by first | exact Or.inl rfl | exact Or.inr (Or.inl rfl) | exact Or.inr (Or.inr rfl))
    (hs : swapsWith ev (some (.Subscript (.Name x np) ek p2)) pos.line X.env = pure false := by rfl)
    (hd : (x == ("__debug__" : PySem.Str)) = false := by decide) (hcd : (x == ("__classdict__" : PySem.Str)) = false := by decide) : DS X B W (.Assign [.Subscript (.Name x np) ek p2] ev pos) (DL.sDPut i fk fv) := by
  intro fl ml
  refine PS_imp (ps_dput hu (pe_var (i := i) hN hv hd hcd) hk hval hs) fun E σ H ⟨Γ, S, Hf, μ, rl, o⟩ => ?_
  refine ⟨Γ, S, Hf, μ, rl.sl, rl.so, SOut.bind rl o fun c S1 v H1 Hf1 μ1 _ s1 r1 rv o1 => ?_⟩
  cases e0 : curO Γ S1 i with
  | none => simp only [e0] at o1; exact o1.elim
  | some o0 =>
    simp only [e0] at o1
    obtain ⟨p, u, e1, e2, e3⟩ := cur_ok r1.sl r1.so e0
    refine ⟨.ref p, e1, Γ, S1, Hf1, μ1, r1.sl, r1.so, SOut.bind r1 o1 fun k S2 y H2 Hf2 μ2 _ s2 r2 ry o2 => ?_⟩
    cases e4 : curO Γ S2 i with
    | none => simp only [e4] at o2; exact o2.elim
    | some o4 =>
      simp only [e4] at o2
      obtain ⟨p', u', e1', e2', e3'⟩ := cur_ok r2.sl r2.so e4
      rw [e1] at e1'
      cases e1'
      cases e5 : dPut o4 k c with
      | none => simp only [e5] at o2; exact o2.elim
      | some o5 =>
        simp only [e5] at o2
        obtain ⟨u5, g, h5⟩ := dPut_ok r2.so e2' e3' ry (s2.rep rv) e5
        exact ⟨p, _, rfl, g, o2 _ _ _ _ (put_ok r2 e4 e1 h5)⟩
theorem de_dlen (i : Nat) {lp : Pos} (hg : Gl X "len") (hm : X.mg "len" = none) (hN : X.N[i]? = some x := by rfl) (hv : Vis X.env.scope x := by first | exact Or.inl rfl | exact Or.inr (Or.inl rfl) | exact Or.inr (Or.inr rfl))
    (hd : (x == ("__debug__" : PySem.Str)) = false := by decide) (hcd : (x == ("__classdict__" : PySem.Str)) = false := by decide)
    (he : starEach [.Name x np] X.env = (false, eval (.Name x np) X.env) :: starEach [] X.env := by rfl) : DE X W (.Call (.Name "len" lp) [.Name x np] [] pos) (eDLen i) :=
  PE_imp (pe_callB call_len_dT hg hm boot_len (pa_cons (pe_var (i := i) hN hv hd hcd) pa_nil he) (by decide) (by decide) he rfl) fun σ H Q ⟨Γ, S, Hf, μ, sl, so, o⟩ => by
    unfold eDLen at o
    split at o
    next kvs e0 =>
      obtain ⟨p, u, e1, e2, ⟨xs, rfl, rk⟩⟩ := cur_ok sl so e0
      refine ⟨.ref p, e1, p, xs, rfl, e2, ?_⟩
      rw [rk.length]
      exact o _ H Hf μ (Step.refl _ _ _) so (by simp only [Rep])
    · exact o.elim
end

/-! ### x[i] = v; x[i], y = pair -/
def sIPut (i : Nat) (fk fv : Ev D) : Es := fun Γ S => bindS Γ (fv Γ S) fun v S1 => match curO Γ S1 i with
  | some _ => bindS Γ (fk Γ S1) fun k S2 => match curO Γ S2 i, k with
    | some (.lst ds), .int z => match ixN ds.length z with
      | some n => .nx (putO Γ S2 i (.lst (ds.set n v))).1 (putO Γ S2 i (.lst (ds.set n v))).2
      | none => .no
    | _, _ => .no
  | none => .no
def sPot (i j : Nat) (z : Int) (f : Ev D) : Es := fun Γ S => bindS Γ (f Γ S) fun d S1 => match d with
  | .tup [a, b] => match curO Γ S1 i with
    | some (.lst ds) => match ixN ds.length z with
      | some n => .nx ((putO Γ S1 i (.lst (ds.set n a))).1.set j (some (.val b))) (putO Γ S1 i (.lst (ds.set n a))).2
      | none => .no
    | _ => .no
  | _ => .no
section
variable {X : Cx} {B : Base} {W : WX} {e : Expr} {fk fv f : Ev D} {x y : PySem.Str} {np pos p2 tp yp kp : Pos} {kk t : Nat}
theorem ds_iput (i : Nat) {ek ev : Expr} (hk : DE X W ek fk) (hval : DE X W ev fv) (hN : X.N[i]? = some x := by rfl) (hv : Vis X.env.scope x := by first | exact Or.inl rfl | exact Or.inr (Or.inl rfl) | exact Or.inr (Or.inr rfl))
    (ha : ∀ v, assign (.Subscript (.Name x np) ek p2) X.env v = (do
      let ov ← holding [v] (eval (.Name x np) X.env)
      let iv ← holding [v, ov] (eval ek X.env)
      standAt p2
      holding [v, ov, iv] (setItem ov iv v)
      release [v, ov, iv] []) := by intro _; rfl)
    (hs : swapsWithSole [.Subscript (.Name x np) ek p2] ev pos.line X.env = pure false := by rfl) (hw : swappedStores [.Subscript (.Name x np) ek p2] ev X.env = pure none := by rfl)
    (h1 : (assignEach [.Subscript (.Name x np) ek p2] X.env).map (·.2) = [assign (.Subscript (.Name x np) ek p2) X.env] := by rfl)
    (hd : (x == ("__debug__" : PySem.Str)) = false := by decide) (hcd : (x == ("__classdict__" : PySem.Str)) = false := by decide) : DS X B W (.Assign [.Subscript (.Name x np) ek p2] ev pos) (sIPut i fk fv) := by
  intro fl ml
  refine PS_imp (ps_asg hval (pg_sub (pe_var (i := i) hN hv hd hcd) hk set_list ha) hs hw h1) fun E σ H ⟨Γ, S, Hf, μ, rl, o⟩ => ?_
  refine ⟨Γ, S, Hf, μ, rl.sl, rl.so, SOut.bind rl o fun c S1 v H1 Hf1 μ1 _ s1 r1 rv o1 => ?_⟩
  cases e0 : curO Γ S1 i with
  | none => simp only [e0] at o1; exact o1.elim
  | some o0 =>
    simp only [e0] at o1
    obtain ⟨p, u, e1, e2, e3⟩ := cur_ok r1.sl r1.so e0
    refine ⟨.ref p, e1, Γ, S1, Hf1, μ1, r1.sl, r1.so, SOut.bind r1 o1 fun k S2 y H2 Hf2 μ2 _ s2 r2 ry o2 => ?_⟩
    split at o2
    next ds z e4 _ =>
      obtain ⟨p', u', e1', e2', ⟨xs, rfl, hz, rx⟩⟩ := cur_ok r2.sl r2.so e4
      rw [e1] at e1'
      cases e1'
      split at o2
      next n en =>
        simp only [Rep] at ry
        subst ry
        have h5 : ORep X.K μ2 Hf2 (.lst (ds.set n c)) (.lst (xs.set n v)) := ⟨_, rfl, by rw [List.length_set]; exact hz, RepL.set n rx (s2.rep rv)⟩
        exact ⟨p, xs, z, n, rfl, rfl, e2', by rw [rx.length]; exact en, o2 _ _ _ _ (put_ok r2 e4 e1 h5)⟩
      · exact o2.elim
    · exact o2.elim
theorem ds_pot (i j : Nat) (z : Int) (hc : X.calm = true) (hval : DE X W e f) (hNd : X.N.Nodup) (hN : X.N[i]? = some x := by rfl) (hv : Vis X.env.scope x := by first | exact Or.inl rfl | exact Or.inr (Or.inl rfl) | exact Or.inr (Or.inr rfl))
    (hNj : X.N[j]? = some y := by rfl) (hy : Loc X.env.scope y := by first | exact Or.inl rfl | exact Or.inr rfl) (hfy : X.fn y = true ∨ X.env.scope.names.lookup y = some .local := by first | exact .inl rfl | exact .inr rfl | assumption)
    (ha : ∀ v, assign (.Subscript (.Name x np) (.Constant (.int z) t kp) p2) X.env v = (do
      let ov ← holding [v] (eval (.Name x np) X.env)
      let iv ← holding [v, ov] (eval (.Constant (.int z) t kp) X.env)
      standAt p2
      holding [v, ov, iv] (setItem ov iv v)
      release [v, ov, iv] []) := by intro _; rfl)
    (hs1 : (assignEach [.Subscript (.Name x np) (.Constant (.int z) t kp) p2, .Name y yp] X.env).map (·.2) = assign (.Subscript (.Name x np) (.Constant (.int z) t kp) p2) X.env :: (assignEach [.Name y yp] X.env).map (·.2) := by rfl)
    (hs2 : (assignEach [.Name y yp] X.env).map (·.2) = assign (.Name y yp) X.env :: (assignEach [] X.env).map (·.2) := by rfl)
    (hn : (assignEach [.Subscript (.Name x np) (.Constant (.int z) t kp) p2, .Name y yp] X.env).length = 2 := by rfl) (hst : (assignEach [.Subscript (.Name x np) (.Constant (.int z) t kp) p2, .Name y yp] X.env).findIdx? (·.1) = none := by rfl)
    (hs : swapsWithSole [.Tuple [.Subscript (.Name x np) (.Constant (.int z) t kp) p2, .Name y yp] kk tp] e pos.line X.env = pure false := by rfl) (hw : swappedStores [.Tuple [.Subscript (.Name x np) (.Constant (.int z) t kp) p2, .Name y yp] kk tp] e X.env = pure none := by rfl)
    (h1 : (assignEach [.Tuple [.Subscript (.Name x np) (.Constant (.int z) t kp) p2, .Name y yp] kk tp] X.env).map (·.2) = [assign (.Tuple [.Subscript (.Name x np) (.Constant (.int z) t kp) p2, .Name y yp] kk tp) X.env] := by rfl)
    (hd : (x == ("__debug__" : PySem.Str)) = false := by decide) (hcd : (x == ("__classdict__" : PySem.Str)) = false := by decide) :
    DS X B W (.Assign [.Tuple [.Subscript (.Name x np) (.Constant (.int z) t kp) p2, .Name y yp] kk tp] e pos) (sPot i j z f) := by
  intro fl ml
  refine PS_imp (ps_asg hval (pg_tup hc (pgs_cons (pg_sub (pe_var (i := i) hN hv hd hcd) pe_int set_list ha) (pgs_cons (pg_name hNd hNj hy hfy) pgs_nil hs2) hs1) hn hst) hs hw h1) fun E σ H ⟨Γ, S, Hf, μ, rl, o⟩ => ?_
  refine ⟨Γ, S, Hf, μ, rl.sl, rl.so, SOut.bind rl o fun c S1 v H1 Hf1 μ1 _ s1 r1 rv o1 => ?_⟩
  split at o1
  next a b _ =>
    simp only [Rep, RepL] at rv
    obtain ⟨q, xs, rfl, hq, _, va, _, rfl, ra, vb, _, rfl, rb, rfl⟩ := rv
    split at o1
    next ds e4 =>
      obtain ⟨p, u, e1, e2, ⟨xs, rfl, hz, rx⟩⟩ := cur_ok r1.sl r1.so e4
      split at o1
      next n en =>
        have h5 : ORep X.K μ1 Hf1 (.lst (ds.set n a)) (.lst (xs.set n va)) := ⟨_, rfl, by rw [List.length_set]; exact hz, RepL.set n rx ra⟩
        have r5 := put_ok r1 e4 e1 h5
        refine ⟨q, [va, vb], rfl, r1.so.sub.tp hq, rfl, va, [vb], rfl, .ref p, e1, p, xs, z, n, rfl, rfl, e2, by rw [rx.length]; exact en, vb, [], rfl, ?_⟩
        exact ⟨rfl, o1 _ _ _ _ (r5.setV j rb)⟩
      · exact o1.elim
    · exact o1.elim
  · exact o1.elim
end

/-! ### unpacking -/
def sUnp (t : Tgt) (f : Ev D) : Es := fun Γ S => bindS Γ (f Γ S) fun d S1 => match t.run d Γ with
  | some Γ' => .nx Γ' S1
  | none => .no
section
variable {X : Cx} {B : Base} {W : WX} {e tg : Expr} {f : Ev D} {t : Tgt} {pos : Pos}
theorem ds_unp (h : DE X W e f) (hg : DG X tg t) (hs : swapsWithSole [tg] e pos.line X.env = pure false := by rfl) (hw : swappedStores [tg] e X.env = pure none := by rfl)
    (h1 : (assignEach [tg] X.env).map (·.2) = [assign tg X.env] := by rfl) : DS X B W (.Assign [tg] e pos) (sUnp t f) := by
  intro fl ml
  refine PS_imp (ps_asg h hg hs hw h1) fun E σ H ⟨Γ, S, Hf, μ, rl, o⟩ => ?_
  refine ⟨Γ, S, Hf, μ, rl.sl, rl.so, SOut.bind rl o fun d S1 v H1 Hf1 μ1 _ s1 r1 rv o1 => ?_⟩
  refine ⟨d, Γ, S1, Hf1, μ1, r1.sl, r1.so, rv, ?_⟩
  cases e1 : t.run d Γ with
  | none => simp only [e1] at o1; exact o1.elim
  | some Γ' =>
    simp only [e1] at o1
    exact fun σ' sl' ow' _ => o1 σ' H1 Hf1 μ1 ⟨sl', r1.so, r1.st, fun j oo p z1 z2 => let ⟨y1, y2⟩ := ow' j oo p z1 z2; r1.own j oo p y1 y2, r1.fz, r1.pm⟩
end

/-! ### a < b < c -/
def bCh (op op' : Op2) (fa fb fc : Ev D) : Ev Bool := fun Γ S => (fa Γ S).bind fun x S1 => (fb Γ S1).bind fun y S2 => match op S2 x y with
  | some (.bl true) => (fc Γ S2).bind fun z S3 => match op' S3 y z with
    | some (.bl b) => .ok b S3
    | _ => .no
  | some (.bl false) => .ok false S2
  | _ => .no
section
variable {X : Cx} {W : WX} {a b c : Expr} {fa fb fc : Ev D} {pos : Pos} {r r' : R2} {p p' : Op2}
theorem tT_ch {K : PySem.W.Frag} (hp : OpB K r p) (hp' : OpB K r' p') {σ : L2.St} {H : Hp} {Q : VK} (q : tT K W (bCh p p' fa fb fc) σ H fun k H1 => Q (.bl k) H1) : tChain r r' (tBo K W fa) (tBo K W fb) (tBo K W fc) σ H Q := by
  obtain ⟨Γ, S, Hf, μ, sl, so, o⟩ := q
  refine ⟨Γ, S, Hf, μ, sl, so, Out.bind sl rm_eq o fun x S1 v H1 Hf1 μ1 _ s1 sl1 so1 r1 o1 => ?_⟩
  refine ⟨Γ, S1, Hf1, μ1, sl1, so1, Out.bind sl1 rm_eq o1 fun y S2 u H2 Hf2 μ2 _ s2 sl2 so2 r2 o2 => ?_⟩
  cases e : p S2 x y with
  | none => simp only [e] at o2; exact o2.elim
  | some z =>
    cases z <;> first | (simp only [e] at o2; exact o2.elim) | skip
    rename_i k
    refine hp S2 H2 Hf2 μ2 v u x y (.bl k) _ so2 (BorR.bor sl2 (BorR.keep (H0' := H) s2 r1)) (BorR.bor sl2 r2) e fun w H3 Hf3 μ3 s3 so3 rw' => ?_
    simp only [Rep] at rw'
    subst rw'
    refine ⟨k, rfl, ?_⟩
    cases k with
    | false =>
      simp only [e] at o2
      rw [if_neg Bool.false_ne_true]
      exact o2 false H3 Hf3 μ3 s3 so3 rfl
    | true =>
      simp only [e] at o2
      rw [if_pos rfl]
      have o3 := Out.later rm_eq s3 o2
      have sl3 := sl2.step s3
      refine ⟨Γ, S2, Hf3, μ3, sl3, so3, Out.bind sl3 rm_eq o3 fun z S4 w4 H4 Hf4 μ4 _ s4 sl4 so4 r4 o4 => ?_⟩
      cases e5 : p' S4 y z with
      | none => simp only [e5] at o4; exact o4.elim
      | some t =>
        cases t <;> first | (simp only [e5] at o4; exact o4.elim) | skip
        rename_i b5
        simp only [e5] at o4
        refine hp' S4 H4 Hf4 μ4 u w4 y z (.bl b5) Q so4 (BorR.bor sl4 (BorR.keep (H0' := H) s4 (BorR.keep (H0' := H) s3 r2))) (BorR.bor sl4 r4) e5 fun w5 H5 Hf5 μ5 s5 so5 rw5 => ?_
        simp only [Rep] at rw5
        subst rw5
        exact o4 b5 H5 Hf5 μ5 s5 so5 rfl
theorem de_ch {op op' : CmpOp} (ho : OpR X (compareOp op) r) (ho' : OpR X (compareOp op') r') (hp : OpB X.K r p) (hp' : OpB X.K r' p') (ha : DB X W a fa) (hb : DB X W b fb) (hc : DB X W c fc)
    (hm : lastMarks [op, op'] [b, c] = false := by with_unfolding_all rfl) : DE X W (.Compare a [op, op'] [b, c] pos) (ofB (bCh p p' fa fb fc)) :=
  PE_imp (pe_chain ho ho' ha hb hc hm) fun σ H Q ⟨Γ, S, Hf, μ, sl, so, o⟩ => tT_ch hp hp' ⟨Γ, S, Hf, μ, sl, so, Out.bind sl rm_rep o fun x S1 v H1 Hf1 μ1 _ s1 sl1 so1 r1 o1 => by
    obtain rfl : x = v := r1
    exact o1 (.bl x) H1 Hf1 μ1 (Step.refl _ _ _) so1 (by simp only [Rep])⟩
theorem dt_ch {op op' : CmpOp} (ho : OpR X (compareOp op) r) (ho' : OpR X (compareOp op') r') (hp : OpB X.K r p) (hp' : OpB X.K r' p') (ha : DB X W a fa) (hb : DB X W b fb) (hc : DB X W c fc)
    (hm : lastMarks [op, op'] [b, c] = false := by with_unfolding_all rfl) : DT X W (.Compare a [op, op'] [b, c] pos) (bCh p p' fa fb fc) :=
  PT_imp (pt_chain ho ho' ha hb hc hm) fun σ H Q ⟨Γ, S, Hf, μ, sl, so, o⟩ => tT_ch hp hp' ⟨Γ, S, Hf, μ, sl, so, by
    cases e : bCh p p' fa fb fc Γ S with
    | no => rw [e] at o; exact o
    | ex C fs S1 => rw [e] at o; exact o
    | ok k S1 => rw [e] at o; exact fun v H1 Hf1 μ1 s1 so1 rv => ⟨v, rfl, o v H1 Hf1 μ1 s1 so1 rv⟩⟩
end
end DL
set_option Elab.async false
set_option linter.all false
set_option maxRecDepth 100000
/-! DLk: several names at once, new objects among the values. -/
namespace DL
open PySem PySem.Spec PyProof.Rows L2

def MxL (K : PySem.W.Frag) (H' Hf' : Hp) (μ' : List Addr) : Hp → List Sl → List V → Prop
  | _, [], vs => vs = []
  | H0, .val d :: ss, vs => ∃ x r, vs = x :: r ∧ Rep K μ' Hf' d x ∧ MxL K H' Hf' μ' H0 ss r
  | H0, .own o :: ss, vs => ∃ p u r Hm, vs = .ref p :: r ∧ H0 p = none ∧ Hm p ≠ none ∧ (∀ a, H0 a ≠ none → Hm a ≠ none) ∧ H' p = some u ∧ ORep K μ' Hf' o u ∧ Hf' p = none ∧ p ∉ μ' ∧ MxL K H' Hf' μ' Hm ss r
def MxR (K : PySem.W.Frag) : RR (List Sl) (List V) := fun H0 H' Hf' μ' ss vs => MxL K H' Hf' μ' H0 ss vs
section
variable {K : PySem.W.Frag} {B : Base} {Γ : Gm} {S : Store} {σ : L2.St} {H Hf H' Hf' : Hp} {μ μ' : List Addr} {W : WX}
theorem MxL.mono : ∀ {ss : List Sl} {vs : List V} {H0 H1 : Hp}, (∀ a, H0 a ≠ none → H1 a ≠ none) → MxL K H' Hf' μ' H1 ss vs → MxL K H' Hf' μ' H0 ss vs
  | [], _, _, _, _, h => h
  | .val d :: ss, _, _, _, t, ⟨x, r, e, q, h⟩ => ⟨x, r, e, q, MxL.mono t h⟩
  | .own o :: ss, _, _, _, t, ⟨p, u, r, Hm, e, n, m, l, q⟩ => ⟨p, u, r, Hm, e, Classical.byContradiction fun z => t p z n, m, fun a z => l a (t a z), q⟩
theorem rm_mx : RMono (MxR K) := fun _ _ _ _ _ _ _ t h => MxL.mono t h
theorem MxL.length : ∀ {ss : List Sl} {vs : List V} {H0 : Hp}, MxL K H' Hf' μ' H0 ss vs → vs.length = ss.length
  | [], _, _, h => by rw [show _ = [] from h]; rfl
  | .val d :: ss, _, _, ⟨x, r, e, q, h⟩ => by rw [e, List.length_cons, List.length_cons, MxL.length h]
  | .own o :: ss, _, _, ⟨p, u, r, Hm, e, n, m, l, _, _, _, _, q⟩ => by rw [e, List.length_cons, List.length_cons, MxL.length q]
theorem MxL.step (s : Step H Hf μ H' Hf' μ') : ∀ {ss : List Sl} {vs : List V} {H0 : Hp}, MxL K H Hf μ H0 ss vs → MxL K H' Hf' μ' H0 ss vs
  | [], _, _, h => h
  | .val d :: ss, _, _, ⟨x, r, e, q, h⟩ => ⟨x, r, e, s.rep q, MxL.step s h⟩
  | .own o :: ss, _, _, ⟨p, u, r, Hm, e, n, m, l, h1, h2, h3, h4, q⟩ =>
    let pv := Priv.step (u := u) ⟨h1, h3, h4⟩ s
    ⟨p, u, r, Hm, e, n, m, l, pv.at_, h2.mono s.fz s.mu, pv.fz, pv.nm, MxL.step s q⟩
def setM : Gm → List Nat → List Sl → Gm
  | Γ, i :: is, s :: ss => setM (Γ.set i (some s)) is ss
  | Γ, _, _ => Γ
def setW : L2.St → List Nat → List V → L2.St
  | σ, i :: is, v :: vs => setW (σ.set i (some v)) is vs
  | σ, _, _ => σ
theorem Rl.setM : ∀ {is : List Nat} {ss : List Sl} {vs : List V} {Γ : Gm} {σ : L2.St} {H0 : Hp}, Rl K B Γ S σ H Hf μ → MxL K H Hf μ H0 ss vs → (∀ (j : Nat) (o : SO) (p : Addr), Γ[j]? = some (some (.own o)) → σ[j]? = some (some (V.ref p)) → H0 p ≠ none) →
    (∀ a, B.H a ≠ none → H0 a ≠ none) → Rl K B (DL.setM Γ is ss) S (setW σ is vs) H Hf μ
  | [], ss, vs, Γ, σ, H0, r, m, ho, hb => by unfold DL.setM setW; exact r
  | i :: is, [], vs, Γ, σ, H0, r, m, ho, hb => by
    obtain rfl : vs = [] := m
    unfold DL.setM setW; exact r
  | i :: is, .val d :: ss, vs, Γ, σ, H0, r, m, ho, hb => by
    obtain ⟨x, t, rfl, q, m⟩ := m
    have z := Rl.setM (is := is) (r.setV i q) m (fun j o p e1 e2 => let ⟨z1, z2⟩ := own_setV e1 e2; ho j o p z1 z2) hb
    exact z
  | i :: is, .own o :: ss, vs, Γ, σ, H0, r, m, ho, hb => by
    obtain ⟨p, u, t, Hm, rfl, n, hm, l, h1, h2, h3, h4, m⟩ := m
    have hB : B.H p = none := Classical.byContradiction fun z => hb p z n
    have z := Rl.setM (is := is) (r.setN i h1 h2 h3 h4 hB fun j o' _ e1 e2 => ho j o' p e1 e2 n) m (fun j o' q e1 e2 => ?_) fun a z => l a (hb a z)
    · exact z
    by_cases hj : i = j
    · subst hj
      by_cases hl : i < σ.length
      · rw [List.getElem?_set_self hl] at e2
        cases e2
        exact hm
      · rw [List.getElem?_eq_none (by rw [List.length_set]; omega)] at e2
        cases e2
    · rw [List.getElem?_set_ne hj] at e1 e2
      exact l q (ho j o' q e1 e2)
end
def tM (K : PySem.W.Frag) (W : WX) (f : Ev (List Sl)) : TA := fun σ H Q => ∃ Γ S Hf μ, SlOk K Γ σ H Hf μ ∧ StoOk K S H Hf μ ∧ Out K (MxR K) W σ H Hf μ (f Γ S) Q
abbrev DM (X : Cx) (W : WX) (es : List Expr) (f : Ev (List Sl)) : Prop := PA X es (tM X.K W f)
def mNil : Ev (List Sl) := fun _ S => .ok [] S
def mVal (f : Ev D) (g : Ev (List Sl)) : Ev (List Sl) := fun Γ S => (f Γ S).bind fun d S1 => (g Γ S1).bind fun ds S2 => .ok (.val d :: ds) S2
def mNew (f : Ev SO) (g : Ev (List Sl)) : Ev (List Sl) := fun Γ S => (f Γ S).bind fun d S1 => (g Γ S1).bind fun ds S2 => .ok (.own d :: ds) S2
section
variable {X : Cx} {B : Base} {W : WX} {e : Expr} {es : List Expr} {f : Ev D} {fn : Ev SO} {g : Ev (List Sl)}
theorem dm_nil : DM X W [] mNil := PA_imp pa_nil fun σ H Q ⟨Γ, S, Hf, μ, sl, so, o⟩ => o [] H Hf μ (Step.refl _ _ _) so rfl
/-- the entry is held -/
abbrev MxH (K : PySem.W.Frag) (H0 : Hp) : RR (List Sl) (List V) := fun _ H' Hf' μ' ss vs => MxL K H' Hf' μ' H0 ss vs
theorem rm_mxh {K : PySem.W.Frag} {H0 : Hp} : RMono (MxH K H0) := fun _ _ _ _ _ _ _ _ h => h
theorem out_hold {K : PySem.W.Frag} {σ : L2.St} {H Hf : Hp} {μ : List Addr} {r : RE (List Sl)} {Q : List V → Hp → Prop} (o : Out K (MxR K) W σ H Hf μ r Q) : Out K (MxH K H) W σ H Hf μ r Q := by
  cases r with
  | ok d S => exact o
  | ex C fs S => exact o
  | no => exact o
theorem dm_val (h : DE X W e f) (k : DM X W es g) (hs : starEach (e :: es) X.env = (false, eval e X.env) :: starEach es X.env := by rfl) : DM X W (e :: es) (mVal f g) :=
  PA_imp (pa_cons h k hs) fun σ H Q ⟨Γ, S, Hf, μ, sl, so, o⟩ => ⟨Γ, S, Hf, μ, sl, so, Out.bind sl rm_mxh (out_hold o) fun d S1 v H1 Hf1 μ1 _ s1 sl1 so1 r1 o1 =>
    ⟨Γ, S1, Hf1, μ1, sl1, so1, Out.bind sl1 rm_mxh o1 fun ds S2 vs H2 Hf2 μ2 _ s2 sl2 so2 r2 o2 => o2 (v :: vs) H2 Hf2 μ2 (Step.refl _ _ _) so2 ⟨v, vs, rfl, s2.rep r1, MxL.mono s1.th r2⟩⟩⟩
theorem dm_new (h : DN X W e fn) (k : DM X W es g) (hs : starEach (e :: es) X.env = (false, eval e X.env) :: starEach es X.env := by rfl) : DM X W (e :: es) (mNew fn g) :=
  PA_imp (pa_cons h k hs) fun σ H Q ⟨Γ, S, Hf, μ, sl, so, o⟩ => ⟨Γ, S, Hf, μ, sl, so, Out.bind sl rm_mxh (out_hold o) fun d S1 v H1 Hf1 μ1 _ s1 sl1 so1 r1 o1 =>
    ⟨Γ, S1, Hf1, μ1, sl1, so1, Out.bind sl1 rm_mxh o1 fun ds S2 vs H2 Hf2 μ2 _ s2 sl2 so2 r2 o2 => by
      obtain ⟨p, u, rfl, hn, hp, ho, hf, hm⟩ := r1
      have pv := Priv.step (u := u) ⟨hp, hf, hm⟩ s2
      exact o2 (.ref p :: vs) H2 Hf2 μ2 (Step.refl _ _ _) so2 ⟨p, u, vs, H1, rfl, hn, (by rw [hp]; exact fun z => nomatch z), s1.th, pv.at_, ho.mono s2.fz s2.mu, pv.fz, pv.nm, r2⟩⟩⟩
/-! ### the assignment -/
def sPar (is : List Nat) (g : Ev (List Sl)) : Es := fun Γ S => bindS Γ (g Γ S) fun ss S1 => if ss.length = is.length then .nx (setM Γ is ss) S1 else .no
theorem tPar_of {K : PySem.W.Frag} {is : List Nat} {E : Ends} {σ : L2.St} {H : Hp} (h : tS K B W (sPar is g) E σ H) : tM K W g σ H fun vs H1 => vs.length = is.length ∧ E.nx (setW σ is vs) H1 ∧ ∀ q u, H1 q = none → E.nx (setW σ is vs) (upd H1 q u) := by
  obtain ⟨Γ, S, Hf, μ, r, o⟩ := h
  refine ⟨Γ, S, Hf, μ, r.sl, r.so, SOut.bind r o fun ss S1 vs H1 Hf1 μ1 _ s1 r1 re o1 => ?_⟩
  have re : MxL K H1 Hf1 μ1 H ss vs := re
  split at o1
  next hl =>
    have ho : ∀ (j : Nat) (o : SO) (p : Addr), Γ[j]? = some (some (.own o)) → σ[j]? = some (some (V.ref p)) → H p ≠ none := fun j o p e1 e2 => by
      obtain ⟨p', u', e3, e4, _⟩ := r.sl.own j o e1
      rw [e3] at e2
      cases e2
      rw [e4]
      exact fun z => nomatch z
    refine ⟨re.length.trans hl, o1 _ _ _ _ (Rl.setM r1 re ho r.st.th), fun q u hq => ?_⟩
    obtain ⟨st, so2, _⟩ := Step.layN (u := u) r1.so hq
    exact o1 _ _ _ _ (Rl.setM (r1.step st so2) (MxL.step st re) ho r.st.th)
  · exact o1.elim
/-- names as targets -/
def tNames (is : List Nat) : TGs := fun vs σ H Q => vs.length = is.length ∧ Q (setW σ is vs) H
abbrev DNm (X : Cx) (tgs : List Expr) (is : List Nat) : Prop := PGs X tgs (tNames is)
theorem nm_nil {X : Cx} : DNm X [] [] := PGs_imp pgs_nil fun vs σ H Q ⟨h, q⟩ => by
  obtain rfl : vs = [] := List.eq_nil_of_length_eq_zero h
  exact ⟨rfl, q⟩
theorem nm_cons {X : Cx} {tgs : List Expr} {is : List Nat} {x : PySem.Str} {pos : Pos} (i : Nat) (hN : X.N.Nodup) (k : DNm X tgs is) (hi : X.N[i]? = some x := by rfl) (hx : Loc X.env.scope x := by first | exact Or.inl rfl | exact Or.inr rfl)
    (hf : X.fn x = true ∨ X.env.scope.names.lookup x = some .local := by first | exact .inl rfl | exact .inr rfl | assumption)
    (hs : (assignEach (.Name x pos :: tgs) X.env).map (·.2) = assign (.Name x pos) X.env :: (assignEach tgs X.env).map (·.2) := by rfl) : DNm X (.Name x pos :: tgs) (i :: is) :=
  PGs_imp (pgs_cons (pg_name hN hi hx hf) k hs) fun vs σ H Q ⟨h, q⟩ => by
    cases vs with
    | nil => cases h
    | cons v vs => exact ⟨v, vs, rfl, by simpa using h, q⟩
theorem ds_parN {tgs : List Expr} {is : List Nat} {kt k2 : Nat} {pt pt2 pos : Pos} (hc : X.calm = true) (ha : DM X W es g) (hn : DNm X tgs is) (hz : is.length ≤ 1000 := by decide)
    (hl : (assignEach tgs X.env).length = is.length := by rfl) (hst : (assignEach tgs X.env).findIdx? (·.1) = none := by rfl)
    (hs : swapsWithSole [.Tuple tgs kt pt] (.Tuple es k2 pt2) pos.line X.env = pure false := by rfl) (hw : swappedStores [.Tuple tgs kt pt] (.Tuple es k2 pt2) X.env = pure none := by rfl)
    (h1 : (assignEach [.Tuple tgs kt pt] X.env).map (·.2) = [assign (.Tuple tgs kt pt) X.env] := by rfl) : DS X B W (.Assign [.Tuple tgs kt pt] (.Tuple es k2 pt2) pos) (sPar is g) := by
  intro fl ml
  refine PS_imp (ps_asg (pe_tup ha) (pg_tup hc hn hl hst) hs hw h1) fun E σ H h => ?_
  obtain ⟨Γ, S, Hf, μ, sl, so, o⟩ := tPar_of h
  refine ⟨Γ, S, Hf, μ, sl, so, ?_⟩
  cases e : g Γ S with
  | no => rw [e] at o; exact o
  | ex C fs S1 => rw [e] at o; exact o
  | ok ss S1 =>
    rw [e] at o
    intro vs H1 Hf1 μ1 s1 so1 r1
    obtain ⟨hl2, _, q2⟩ := o vs H1 Hf1 μ1 s1 so1 r1
    refine ⟨by rw [hl2, sizeLine_eq]; omega, fun p hp => ⟨p, vs, rfl, SqT.of upd_same, hl2, hl2, q2 p _ hp⟩⟩
theorem ds_par2 {i j : Nat} {x y : PySem.Str} {a b : Expr} {px py pt pt2 pos : Pos} {kt k2 : Nat} (hc : X.calm = true) (hN : X.N.Nodup) (ha : DM X W [a, b] g) (hij : i ≠ j := by decide) (hi : X.N[i]? = some x := by rfl) (hj : X.N[j]? = some y := by rfl)
    (hx : X.env.scope.names.lookup x = some .local := by rfl) (hy : X.env.scope.names.lookup y = some .local := by rfl)
    (hw : swappedStores [.Tuple [.Name x px, .Name y py] kt pt] (.Tuple [a, b] k2 pt2) X.env = pure (some [x, y]) := by with_unfolding_all rfl)
    (hs : swapsWithSole [.Tuple [.Name x px, .Name y py] kt pt] (.Tuple [a, b] k2 pt2) pos.line X.env = pure false := by rfl) :
    DS X B W (.Assign [.Tuple [.Name x px, .Name y py] kt pt] (.Tuple [a, b] k2 pt2) pos) (sPar [i, j] g) := by
  intro fl ml
  refine PS_imp (ps_par hc hN hi hj hij hx hy ha hw hs) fun E σ H h => ?_
  obtain ⟨Γ, S, Hf, μ, sl, so, o⟩ := tPar_of h
  refine ⟨Γ, S, Hf, μ, sl, so, ?_⟩
  cases e : g Γ S with
  | no => rw [e] at o; exact o
  | ex C fs S1 => rw [e] at o; exact o
  | ok ss S1 =>
    rw [e] at o
    intro vs H1 Hf1 μ1 s1 so1 r1
    obtain ⟨hl2, q1, _⟩ := o vs H1 Hf1 μ1 s1 so1 r1
    match vs, hl2 with
    | [v, w], _ => exact ⟨v, w, rfl, q1⟩
theorem ds_par3 {i j l : Nat} {x y z : PySem.Str} {a b c : Expr} {px py pz pt pt2 pos : Pos} {kt k2 : Nat} (hc : X.calm = true) (hN : X.N.Nodup) (ha : DM X W [a, b, c] g) (hij : i ≠ j := by decide) (hil : i ≠ l := by decide) (hjl : j ≠ l := by decide)
    (hi : X.N[i]? = some x := by rfl) (hj : X.N[j]? = some y := by rfl) (hl : X.N[l]? = some z := by rfl)
    (hx : X.env.scope.names.lookup x = some .local := by rfl) (hy : X.env.scope.names.lookup y = some .local := by rfl) (hz : X.env.scope.names.lookup z = some .local := by rfl)
    (hw : swappedStores [.Tuple [.Name x px, .Name y py, .Name z pz] kt pt] (.Tuple [a, b, c] k2 pt2) X.env = pure (some [x, y, z]) := by with_unfolding_all rfl)
    (hs : swapsWithSole [.Tuple [.Name x px, .Name y py, .Name z pz] kt pt] (.Tuple [a, b, c] k2 pt2) pos.line X.env = pure false := by rfl) :
    DS X B W (.Assign [.Tuple [.Name x px, .Name y py, .Name z pz] kt pt] (.Tuple [a, b, c] k2 pt2) pos) (sPar [i, j, l] g) := by
  intro fl ml
  refine PS_imp (ps_par3 hc hN hi hj hl hij hil hjl hx hy hz ha hw hs) fun E σ H h => ?_
  obtain ⟨Γ, S, Hf, μ, sl, so, o⟩ := tPar_of h
  refine ⟨Γ, S, Hf, μ, sl, so, ?_⟩
  cases e : g Γ S with
  | no => rw [e] at o; exact o
  | ex C fs S1 => rw [e] at o; exact o
  | ok ss S1 =>
    rw [e] at o
    intro vs H1 Hf1 μ1 s1 so1 r1
    obtain ⟨hl2, q1, _⟩ := o vs H1 Hf1 μ1 s1 so1 r1
    match vs, hl2 with
    | [v, w, u], _ => exact ⟨v, w, u, rfl, q1⟩
end
end DL
set_option Elab.async false
set_option linter.all false
set_option maxRecDepth 100000
/-! DLl: methods that tell; names of the module; words for the printed texts. -/
namespace DL
open PySem PySem.Spec PyProof.Rows L2

/-! ### x.count(y), x.index(y) -/
def MtB (K : PySem.W.Frag) (r : V → List V → Hp → VK → Prop) (op : Op2) : Prop := ∀ (S : Store) (H Hf : Hp) (μ : List Addr) (x y : V) (a b c : D) (Q : VK), StoOk K S H Hf μ → Bor K H Hf μ a x → Bor K H Hf μ b y → op S a b = some c →
  (∀ v H' Hf' μ', Step H Hf μ H' Hf' μ' → StoOk K S H' Hf' μ' → Rep K μ' Hf' c v → Q v H') → r x [y] H Q
def isLs (S : Store) (d : D) : Bool := (viewLs S d).isSome
def eMt (op : Op2) (f g : Ev D) : Ev D := fun Γ S => (f Γ S).bind fun a S1 => if isLs S1 a then (g Γ S1).bind fun b S2 => match op S2 a b with
  | some z => .ok z S2
  | none => .no
  else .no
section
variable {X : Cx} {W : WX} {o e : Expr} {fo fe : Ev D} {id : String} {name : PySem.Str} {apos cpos : Pos} {r : V → List V → Hp → VK → Prop} {op : Op2}
theorem tyv_s {K : PySem.W.Frag} {H : Hp} {a : Addr} {xs : List V} (q : SqL K H a xs) : tyV K "list" (.ref a) H := .inl ⟨rfl, xs, q⟩
theorem de_mt (slot : Slot "list" name id) (hty : typeOf (.builtin id) = pure (.type "method_descriptor")) (hm : MtR X id r) (hop : MtB X.K r op) (ho : DB X W o fo) (he : DB X W e fe)
    (hbase : attributeBase o name X.env (eval o X.env) = eval o X.env := by rfl)
    (hfew : ((backTo cpos (starEach [e] X.env)).all (fun x => !x.1) && (backToKw cpos (keywordEach [] X.env)).all (fun x => x.1.isSome)
      && decide (([e] : List Expr).length + ([] : List Keyword).length + (if ([] : List Keyword).isEmpty then 0 else 1) < 30)) = true := by rfl)
    (hline : (apos.endLine == cpos.line) = true := by rfl) (hs : starEach [e] X.env = (false, eval e X.env) :: starEach [] X.env := by rfl) :
    DE X W (.Call (.Attribute o name apos) [e] [] cpos) (eMt op fo fe) :=
  PE_imp (pe_bm PySem.F.plainAttrs_list slot hty hm ho (pa_cons he pa_nil hs) hbase hfew hline hs rfl) fun σ H Q ⟨Γ, S, Hf, μ, sl, so, o'⟩ => ⟨Γ, S, Hf, μ, sl, so, Out.bind sl rm_rep o' fun a S1 v H1 Hf1 μ1 _ s1 sl1 so1 r1 o1 => by
    split at o1
    next hl =>
      have bx := BorR.bor sl1 r1
      refine ⟨?_, Γ, S1, Hf1, μ1, sl1, so1, Out.bind sl1 rm_rep o1 fun b S2 u H2 Hf2 μ2 _ s2 sl2 so2 r2 o2 => ?_⟩
      · unfold isLs at hl
        cases e1 : viewLs S1 a with
        | none => rw [e1] at hl; cases hl
        | some ds =>
          obtain ⟨p, xs, rfl, hq, _⟩ := viewLs_ok so1 bx e1
          exact tyv_s hq
      · cases e2 : op S2 a b with
        | none => simp only [e2] at o2; exact o2.elim
        | some z =>
          simp only [e2] at o2
          exact hop S2 H2 Hf2 μ2 v u a b z Q so2 (BorR.bor sl2 (BorR.keep (H0' := H) s2 r1)) (BorR.bor sl2 r2) e2 o2
    · exact o1.elim⟩
def oCnt : Op2 := fun S a b => match b with
  | .int k => ((viewLs S a).bind intsOf).map fun ns => .int (ns.count k : Nat)
  | _ => none
theorem mb_cnt {K : PySem.W.Frag} : MtB K (rCntI K) oCnt := by
  intro S H Hf μ x y a b c Q so bx by_ e k
  unfold oCnt at e
  split at e
  next z =>
    obtain ⟨ds, ns, e1, e2, rfl⟩ := map_bind e
    obtain ⟨p, xs, rfl, hq, _, rl⟩ := viewLs_ok so bx e1
    have hx := ints_of rl e2
    subst hx
    exact ⟨p, ns, z, rfl, by rw [by_.int], hq, k _ H Hf μ (Step.refl _ _ _) so (by simp only [Rep])⟩
  · cases e
theorem de_cnt (ho : DB X W o fo) (he : DB X W e fe) (hbase : attributeBase o "count" X.env (eval o X.env) = eval o X.env := by rfl)
    (hfew : ((backTo cpos (starEach [e] X.env)).all (fun x => !x.1) && (backToKw cpos (keywordEach [] X.env)).all (fun x => x.1.isSome)
      && decide (([e] : List Expr).length + ([] : List Keyword).length + (if ([] : List Keyword).isEmpty then 0 else 1) < 30)) = true := by rfl)
    (hline : (apos.endLine == cpos.line) = true := by rfl) (hs : starEach [e] X.env = (false, eval e X.env) :: starEach [] X.env := by rfl) :
    DE X W (.Call (.Attribute o "count" apos) [e] [] cpos) (eMt oCnt fo fe) := de_mt PySem.F.slot_list_count PySem.F.type_list_count mt_lcount mb_cnt ho he hbase hfew hline hs
/-- the first place of an equal item -/
def firstEq (d : PyData) : List PyData → Nat → Option Nat
  | [], _ => none
  | z :: r, j => if PyData.eqv z d then some j else firstEq d r (j + 1)
theorem firstEq_ok {d : PyData} : ∀ {l : List PyData} {j n : Nat}, firstEq d l j = some n → ∃ i z, n = j + i ∧ l[i]? = some z ∧ PyData.eqv z d = true ∧ ∀ (m : Nat) (z' : PyData), m < i → l[m]? = some z' → PyData.eqv z' d = false
  | [], _, _, h => by cases h
  | z :: r, j, n, h => by
    unfold firstEq at h
    split at h
    next q => cases h; exact ⟨0, z, rfl, rfl, q, fun m _ hm => absurd hm (by omega)⟩
    next q =>
      obtain ⟨i, z2, h1, h2, h3, h4⟩ := firstEq_ok h
      refine ⟨i + 1, z2, by omega, by simpa using h2, h3, fun m z' hm hz => ?_⟩
      cases m with
      | zero => simp at hz; subst hz; simpa using q
      | succ m => exact h4 m z' (by omega) (by simpa using hz)
def oIdx : Op2 := fun S a b => match pyS S a, pyS S b with
  | some (.list qs), some p => if SeqAt.shaped p && SeqAt.shaped (.list qs) then (firstEq p qs 0).map fun n => .int (n : Nat) else none
  | _, _ => none
theorem mb_idx {K : PySem.W.Frag} : MtB K (rIndexD K) oIdx := by
  intro S H Hf μ x y a b c Q so bx by_ e k
  unfold oIdx at e
  split at e
  next qs p e1 e2 =>
    split at e
    next h =>
      rw [Bool.and_eq_true] at h
      cases e3 : firstEq p qs 0 with
      | none => rw [e3] at e; cases e
      | some n =>
        rw [e3] at e
        cases e
        obtain ⟨i, z, h1, h2, h3, h4⟩ := firstEq_ok e3
        obtain rfl : n = i := by omega
        have dx := bor_dp so bx e1
        cases dx with
        | lst hs ha => exact ⟨_, y, p, qs, n, z, rfl, rfl, .lst hs ha, bor_dp so by_ e2, h.2, h.1, h2, h3, h4, k _ H Hf μ (Step.refl _ _ _) so (by simp only [Rep])⟩
    · cases e
  · cases e
theorem de_idx (hu : X.A.units + 65 < cLine) (ho : DB X W o fo) (he : DB X W e fe) (hbase : attributeBase o "index" X.env (eval o X.env) = eval o X.env := by rfl)
    (hfew : ((backTo cpos (starEach [e] X.env)).all (fun x => !x.1) && (backToKw cpos (keywordEach [] X.env)).all (fun x => x.1.isSome)
      && decide (([e] : List Expr).length + ([] : List Keyword).length + (if ([] : List Keyword).isEmpty then 0 else 1) < 30)) = true := by rfl)
    (hline : (apos.endLine == cpos.line) = true := by rfl) (hs : starEach [e] X.env = (false, eval e X.env) :: starEach [] X.env := by rfl) :
    DE X W (.Call (.Attribute o "index" apos) [e] [] cpos) (eMt oIdx fo fe) := de_mt PySem.F.slot_list_index PySem.F.type_list_index (mt_indexD hu) mb_idx ho he hbase hfew hline hs
end

/-! ### the built-ins by name -/
theorem bo_len : bootBuiltins "len" = some (.builtin "len") := by kernel_rfl
theorem bo_abs : bootBuiltins "abs" = some (.builtin "abs") := by kernel_rfl
theorem bo_max : bootBuiltins "max" = some (.builtin "max") := by kernel_rfl
theorem bo_min : bootBuiltins "min" = some (.builtin "min") := by kernel_rfl
theorem bo_sum : bootBuiltins "sum" = some (.builtin "sum") := by kernel_rfl
theorem bo_all : bootBuiltins "all" = some (.builtin "all") := by kernel_rfl
theorem bo_any : bootBuiltins "any" = some (.builtin "any") := by kernel_rfl
theorem bo_divmod : bootBuiltins "divmod" = some (.builtin "divmod") := by kernel_rfl
theorem bo_repr : bootBuiltins "repr" = some (.builtin "repr") := by kernel_rfl
theorem bo_sorted : bootBuiltins "sorted" = some (.builtin "sorted") := by kernel_rfl
theorem bo_isinstance : bootBuiltins "isinstance" = some (.builtin "isinstance") := by kernel_rfl
theorem bo_int : bootBuiltins "int" = some (.type "int") := by kernel_rfl
theorem bo_bool : bootBuiltins "bool" = some (.type "bool") := by kernel_rfl
theorem bo_str : bootBuiltins "str" = some (.type "str") := by kernel_rfl
theorem bo_tuple : bootBuiltins "tuple" = some (.type "tuple") := by kernel_rfl
theorem bo_list : bootBuiltins "list" = some (.type "list") := by kernel_rfl
theorem bo_dict : bootBuiltins "dict" = some (.type "dict") := by kernel_rfl
theorem bo_set : bootBuiltins "set" = some (.type "set") := by kernel_rfl

/-! ### what is known of the module -/
structure Cn (fa : List He.Fa) (fn : List He.DefD) (ex : PySem.W.Frag → Bool) (K : PySem.W.Frag) (mg : PySem.Str → Option Value) (base : Heap) : Prop where
  says : He.SaysD fa fn K
  kin : K.In base
  ns : base.Ns mainGlobals mg
  more : ex K = true
section
variable {fa : List He.Fa} {fn : List He.DefD} {ex : PySem.W.Frag → Bool} {K : PySem.W.Frag} {mg : PySem.Str → Option Value} {base : Heap}
theorem Cn.glo (c : Cn fa fn ex K mg base) (i : Nat) {x : PySem.Str} (h : fa[i]? = some (.glo x)) : mg x = some (.ref (He.ga K x)) := He.glo_ok c.kin c.ns (c.says.fact i h)
theorem Cn.free (c : Cn fa fn ex K mg base) (i : Nat) {x : PySem.Str} (h : fa[i]? = some (.free x)) : mg x = none := He.free_ok c.kin c.ns (c.says.fact i h)
theorem Cn.int (c : Cn fa fn ex K mg base) (i : Nat) {x : PySem.Str} {n : Int} (h : fa[i]? = some (.int x n)) : ∃ t, mg x = some (.int n t) := He.int_ok c.kin c.ns (c.says.fact i h)
theorem Cn.str (c : Cn fa fn ex K mg base) (i : Nat) {x z : PySem.Str} (h : fa[i]? = some (.str x z)) : ∃ t, mg x = some (.str z t) := He.str_ok c.kin c.ns (c.says.fact i h)
end
section
variable {X : Cx} {W : WX} {x : PySem.Str} {pos : Pos}
theorem de_gi {n : Int} (hm : ∃ t, X.mg x = some (.int n t)) (hg : Gl X x) (hd : (x == ("__debug__" : PySem.Str)) = false := by decide) : DE X W (.Name x pos) (eC (.int n)) := by
  obtain ⟨t, e⟩ := hm
  exact de_glob hg e (v := .int n) ⟨t, rfl⟩ (fun _ _ => by simp only [Rep]) hd
theorem de_gs {z : PySem.Str} (hm : ∃ t, X.mg x = some (.str z t)) (hg : Gl X x) (hd : (x == ("__debug__" : PySem.Str)) = false := by decide) : DE X W (.Name x pos) (eC (.str z)) := by
  obtain ⟨t, e⟩ := hm
  exact de_glob hg e (v := .str z) ⟨t, rfl⟩ (fun _ _ => by simp only [Rep]) hd
end
end DL
namespace DL
open PySem L2
theorem u1_of {k : Nat} {A : Around} (r : Room k A) : A.units + 1 < cLine := by have := r.un; omega
theorem u65_of {k : Nat} {A : Around} (r : Room k A) : A.units + 65 < cLine := by have := r.un; omega
end DL
namespace DL
open PySem L2
def kindEq (a b : Option NameKind) : Bool := decide (a = b)
def blkB (N : List PySem.Str) (sc scope : Scope) (own : List (PySem.Str × Nat)) : Bool :=
  decide (scope.kind = .function) && (scope.names.all fun y => kindEq (scope.names.lookup y.1) (some y.2)) && (own.all fun p => decide (N[p.2]? = some p.1)) &&
  (scope.names.all fun y => !kindEq (some y.2) (some .free) || (kindEq (sc.names.lookup y.1) (some .cell) || kindEq (sc.names.lookup y.1) (some .free))) &&
  (scope.names.all fun y => !(kindEq (some y.2) (some .local) || kindEq (some y.2) (some .cell)) || ((own.map (·.1)).contains y.1 || !N.contains y.1))
theorem blk_of {N : List PySem.Str} {sc scope : Scope} {own : List (PySem.Str × Nat)} (h : blkB N sc scope own = true) : BlkOk N sc scope own := by
  unfold blkB kindEq at h
  simp only [Bool.and_eq_true, decide_eq_true_eq, List.all_eq_true] at h
  obtain ⟨⟨⟨⟨h1, h2⟩, h3⟩, h4⟩, h5⟩ := h
  refine ⟨h1, fun y hy => h2 y hy, fun p hp => h3 p hp, fun y hy e => ?_, fun y hy e => ?_⟩
  · have := h4 y hy
    simp [e] at this
    exact this
  · have := h5 y hy
    rcases e with e | e <;> simpa [e] using this
end DL
namespace DL
open PySem L2
theorem dt_w {X : Cx} {W : WX} {e : Expr} {f : Ev Bool} (h : DW X W e f) : DT X W e f := h.pt
end DL
set_option Elab.async false
set_option linter.all false
set_option maxRecDepth 100000
set_option maxHeartbeats 4000000
/-! DLm: an own exception over ArithmeticError whose __init__ keeps two fields; raise. -/
namespace DL
open PySem PySem.Spec PyProof.Rows L2

/-- a built-in class over which one's own errors stand -/
structure EB where
  nm : String
  nw : String
  ini : String
  sf : StoreFacts nm [.type nm, .type "Exception", .type "BaseException", .type "object"] "object.__setattr__" "object"
  xf : ExcBaseFacts nm nw ini [.type nm, .type "Exception", .type "BaseException", .type "object"]
abbrev EB.tl (E : EB) : List Value := [.type E.nm, .type "Exception", .type "BaseException", .type "object"]
def ebA : EB := ⟨"ArithmeticError", "ArithmeticError.__new__", "ArithmeticError.__init__", PySem.F.store_ArithmeticError, PySem.F.excBase_ArithmeticError⟩
def ebV : EB := ⟨"ValueError", "ValueError.__new__", "ValueError.__init__", PySem.F.store_ValueError, PySem.F.excBase_ValueError⟩
/-- what the written part says of the class -/
structure OexA (K : PySem.W.Frag) (C : Addr) : Prop where
  at_ : ∃ (E : EB) (nm q : _) (N : _) (bs : _) (bm : _) (sn : _) (sub : _) (ab : _) (col : _) (dd : _) (k0 : _) (k1 : _) (k2 : _) (k3 : _) (k5 : _), K.lookup C = some (excClassObj nm q C N bs bm true sn sub ab col dd k0 k1 k2 k3 k5 E.nw) ∧ PySem.W.excTail E.tl bm = true
  st : PySem.W.findIn K (.ref C) "__setattr__" = some (some (.builtin "object.__setattr__"))
  sub : PySem.W.subIn K (.ref C) (.type "BaseException") = some true
  ty : PySem.W.typeIn K (.ref C) = some (.type "type")
  kp : PySem.W.keepIn K (.ref C) = true
def oexAB (K : PySem.W.Frag) (C : Addr) : Bool := (match K.lookup C with
  | some ⟨.type "type", _, .cls cd, sl⟩ => (match cd.mro, sl.toList with
    | .ref C' :: bm, [_, _, _, _, some (.builtin n), _] => decide (C' = C) && (!cd.hasDel && (cd.hasDict && ((decide (n = "ArithmeticError.__new__") && PySem.W.excTail ebA.tl bm) || (decide (n = "ValueError.__new__") && PySem.W.excTail ebV.tl bm))))
    | _, _ => false)
  | _ => false) && (decide (PySem.W.findIn K (.ref C) "__setattr__" = some (some (.builtin "object.__setattr__"))) && (decide (PySem.W.subIn K (.ref C) (.type "BaseException") = some true) && (decide (PySem.W.typeIn K (.ref C) = some (.type "type")) && PySem.W.keepIn K (.ref C))))
theorem oexA_of {K : PySem.W.Frag} {C : Addr} (h : oexAB K C = true) : OexA K C := by
  unfold oexAB at h
  simp only [Bool.and_eq_true, decide_eq_true_eq] at h
  obtain ⟨h0, h1, h2, h3, h4⟩ := h
  refine ⟨?_, h1, h2, h3, h4⟩
  split at h0
  next dd cd sl hl =>
    split at h0
    next C' bm k0 k1 k2 k3 n k5 hm hs =>
      simp only [Bool.and_eq_true, decide_eq_true_eq, Bool.not_eq_true', Bool.or_eq_true] at h0
      obtain ⟨rfl, e1, e2, e3⟩ := h0
      obtain ⟨nm, bs, mro, ns, qn, hd, sn, sb, ab, col, del⟩ := cd
      dsimp only at hm e1 e2
      subst hm e1 e2
      obtain ⟨l⟩ := sl
      dsimp only at hs
      subst hs
      rcases e3 with ⟨rfl, e3⟩ | ⟨rfl, e3⟩
      · exact ⟨ebA, nm, qn, ns, bs, bm, sn, sb, ab, col, dd, k0, k1, k2, k3, k5, hl, e3⟩
      · exact ⟨ebV, nm, qn, ns, bs, bm, sn, sb, ab, col, dd, k0, k1, k2, k3, k5, hl, e3⟩
    · cases h0
  · cases h0
theorem OexA.over {K : PySem.W.Frag} {C : Addr} (T : OexA K C) : ∃ E : EB, PySem.W.excOver K C E.tl = true := by
  obtain ⟨E, nm, q, N, bs, bm, sn, sub, ab, col, dd, k0, k1, k2, k3, k5, hC, hbm⟩ := T.at_
  refine ⟨E, ?_⟩
  unfold PySem.W.excOver PySem.W.clsIn
  rw [hC]
  show (decide (C = C) && PySem.W.excTail E.tl bm) = true
  rw [hbm]
  simp
section
open Builtin Builtin.ObjectAttr PySem.W PySem.Calls PySem.HandSPX PySem.OEX
variable {prog : Program} {w : World} {A : Around} {hp : Heap} {g : Array GenState} {d : Drawn} {t : Nat} {os : OsState} {R : Result → Shared → Prop}
theorem clsA {K : PySem.W.Frag} {C : Addr} (T : OexA K C) : ∃ cd, PySem.W.clsIn K C = some cd ∧ cd.hasDict = true := by
  obtain ⟨E, nm, q, N, bs, bm, sn, sub, ab, col, dd, k0, k1, k2, k3, k5, hC, hbm⟩ := T.at_
  exact ⟨{ name := nm, bases := bs, mro := .ref C :: bm, ns := N, qualname := q, hasDict := true, slotNames := sn, subclasses := sub, abstract := ab, collection := col, hasDel := false }, by unfold PySem.W.clsIn; rw [hC] <;> rfl, rfl⟩
theorem takA {K : PySem.W.Frag} {C : Addr} {f : PySem.Str} (h : PySem.W.findIn K (.ref C) f = some none) : PySem.W.takerIn K C f = some none := by
  unfold PySem.W.takerIn
  rw [h]
  rfl
/-- the first field -/
theorem osaA_new {K : PySem.W.Frag} {f : PySem.Str} {tk : Tok} {v : Value} {x C : Addr} {fv : Array Value} (T : OexA K C) (X : K.In hp) (hx : hp.get? x = some { cls := .ref C, data := .fields fv }) (ha : PySem.W.findIn K (.ref C) f = some none)
    (hq : ∀ h' tk' dx, (∀ b o, b ≠ x → hp.get? b = some o → h'.get? b = some o) → hp.objs.size ≤ dx → dx ≠ x → h'.get? x = some { cls := .ref C, dict := some dx, data := .fields fv } →
      h'.Ns1 dx (fun y => if y = f then some v else none) → R (.ok (.ret .none)) ⟨h', g, d, tk', os⟩) :
    codeAny (model prog w) A (.call (.builtin "object.__setattr__") ⟨[.ref x, .str f tk, v], []⟩) R ⟨hp, g, d, t, os⟩ := by
  have I : PySem.W.InstAt hp x { cls := .ref C, data := .fields fv } C none := ⟨hx, rfl, rfl, trivial⟩
  obtain ⟨cd, hcd, hh⟩ := clsA T
  have hxs : x ≠ hp.objs.size := Nat.ne_of_lt (Heap.lt_size hx)
  have hcls : PySem.W.Looks (model prog w) hp (classData C) cd := PySem.W.looks_clsIn X hcd
  obtain ⟨E, hE⟩ := T.over
  refine PySem.W.osa_openX E.sf X I hE (takA ha) fun b => ?_
  obtain ⟨nm, bs, mro, ns, qn, hd, sn, sb, ab, col, del⟩ := cd
  dsimp only at hh; subst hh
  dsimp only
  unfold storeInOwnDict ownDictForStores
  repeat (first | with_reducible refine PySem.HandSPX.store_in_new ?_ ?_ | with_reducible refine wpAny_loadPart_at hx ?_ | with_reducible refine hcls.at ?_ | wp_step)
  · exact ⟨_, #[], _, (Heap.get?_update_ne _ _ _ _ hxs.symm).trans (Heap.get?_push_at rfl rfl), rfl, fun e he => absurd he (by simp), fun _ => rfl⟩
  · intro h' tk' hn' hs
    have hx1 : (hp.push { cls := .type "dict", data := .dict #[] }).get? x = some { cls := .ref C, data := .fields fv } := Heap.get?_push_of_some _ hx
    exact hq h' tk' hp.objs.size (fun b o hb ho => (hs.2 b (Nat.ne_of_lt (Heap.lt_size ho))).trans ((Heap.get?_update_ne _ _ _ _ hb).trans (Heap.get?_push_of_some _ ho))) (Nat.le_refl _) hxs.symm ((hs.2 x hxs).trans (Heap.get?_update_self _ hx1 rfl)) hn'
/-- a further field -/
theorem osaA_old {K : PySem.W.Frag} {f : PySem.Str} {tk : Tok} {v : Value} {x C dx : Addr} {fv : Array Value} {m0 : PySem.Str → Option Value} {nl : List PySem.Str} (T : OexA K C) (X : K.In hp) (hx : hp.get? x = some { cls := .ref C, dict := some dx, data := .fields fv })
    (hns : hp.Ns1 dx m0) (hw : Within m0 nl) (hz : nl.length ≤ 1000) (ha : PySem.W.findIn K (.ref C) f = some none)
    (hq : ∀ h' tk', (∀ b o, b ≠ dx → hp.get? b = some o → h'.get? b = some o) → h'.Ns1 dx (fun y => if y = f then some v else m0 y) → R (.ok (.ret .none)) ⟨h', g, d, tk', os⟩) :
    codeAny (model prog w) A (.call (.builtin "object.__setattr__") ⟨[.ref x, .str f tk, v], []⟩) R ⟨hp, g, d, t, os⟩ := by
  obtain ⟨oD, esD, epD, hoD, hdD, _⟩ := hns.count hw
  have I : PySem.W.InstAt hp x { cls := .ref C, dict := some dx, data := .fields fv } C (some oD) := ⟨hx, rfl, rfl, hoD⟩
  obtain ⟨cd, hcd, hh⟩ := clsA T
  have hcls : PySem.W.Looks (model prog w) hp (classData C) cd := PySem.W.looks_clsIn X hcd
  obtain ⟨E, hE⟩ := T.over
  refine PySem.W.osa_openX E.sf X I hE (takA ha) fun b => ?_
  obtain ⟨nm, bs, mro, ns, qn, hd, sn, sb, ab, col, del⟩ := cd
  dsimp only at hh; subst hh
  dsimp only
  unfold storeInOwnDict ownDictForStores
  repeat (first | with_reducible refine PySem.OEX.store_in_old hns hw hz ?_ | with_reducible refine wpAny_loadPart_at hx ?_ | with_reducible refine hcls.at ?_ | wp_step)
  intro h' tk' hn' hs
  exact hq h' tk' (fun b o hb ho => (hs.2 b hb).trans ho) hn'
end

section
variable {X : Cx} {pins : List (Addr × Obj)} {σ : L2.St} {H : Hp} {s : Shared} {a C dx : Addr} {f : PySem.Str} {y : V} {u : Value} {fs : List (PySem.Str × V)} {Q : Unit → Shared → Prop} {E : Value → Shared → Prop} {A : Around}
theorem ostA_new (T : OexA X.K C) (I : Inv X pins σ H s) (ea : H a = some (exo a C none)) (hno : PySem.W.findIn X.K (.ref C) f = some none) (ry : RelV y u)
    (hk : ∀ dx s', H dx = none → dx ≠ a → Inv X pins σ (upd (upd H dx (exd dx [(f, y)])) a (exo a C (some dx))) s' → Q () s') : wpAny (model X.prog X.w) A (setAttr (.ref a) f u) Q E s := by
  obtain ⟨t1, oa⟩ := exo_at I.hok ea
  obtain ⟨hp, g, d, t, os⟩ := s
  refine PySem.W.set_plain I.kIn (ox := { cls := .ref C, dict := none, data := .fields #[.ref t1, .none, .none, .none, .bool false, .none] }) (od := none) ⟨oa, rfl, rfl, trivial⟩ T.st ?_
  refine osaA_new T I.kIn oa hno fun h2 tk2 dx kp dn dne hx hn => ?_
  have fresh : H dx = none := I.hok.fresh dn
  have old_dx : ∀ {b : Addr} {o : Obj}, hp.get? b = some o → b ≠ dx := fun z => Nat.ne_of_lt (Nat.lt_of_lt_of_le (Heap.lt_size z) dn)
  have not_a : ∀ {b : Addr}, H b = none → b ≠ a := fun {b} n z => by rw [z, ea] at n; cases n
  have un : Un X.fs [] H (upd (upd H dx (exd dx [(f, y)])) a (exo a C (some dx))) hp h2 := by
    constructor
    · exact fun b o z n _ _ => kp b o (not_a n) z
    · exact fun b o z n _ _ => ⟨o.slots, kp b o (not_a n) z⟩
    · exact fun b o z n _ => by rw [upd_ne (not_a n), upd_ne (old_dx z)]; exact n
    · intro b o z _
      by_cases e : b = a
      · exact ⟨_, by rw [e]; exact hx⟩
      · exact ⟨o, kp b o e z⟩
    · exact fun b xs z => by rw [upd_ne (at_ne ea z exo_tup), upd_ne (ne_of_none z fresh)]; exact z
    · exact fun b o v z => by rw [upd_ne (at_ne ea z exo_frz), upd_ne (ne_of_none z fresh)]; exact z
    · exact fun b ps z => ⟨#[], by rw [upd_ne (at_ne ea z exo_tbl), upd_ne (ne_of_none z fresh), z]; simp⟩
  refine hk dx _ fresh dne (I.un (t' := tk2) un fun b o z => ?_)
  by_cases e1 : b = a
  · subst e1; rw [upd_same] at z; cases z; exact exo_ok hx
  · rw [upd_ne e1] at z
    by_cases e2 : b = dx
    · subst e2; rw [upd_same] at z; cases z
      exact exd_ok hn (relO_put (fs := []) ry fun _ => True.intro)
    · rw [upd_ne e2] at z
      refine (I.hok b o z).stay (fun c v hc q => kp c v ?_ q) (fun c hc => ?_) (fun c xs hc => ?_)
      · rcases hc with hc | hc
        · rw [hc]; exact e1
        · exact at_ne ea hc exo_own
      · rw [upd_ne (at_ne ea hc exo_own), upd_ne (ne_of_none hc fresh)]; exact hc
      · rw [upd_ne (at_ne ea hc exo_tup), upd_ne (ne_of_none hc fresh)]; exact hc
theorem ostA_old (T : OexA X.K C) (I : Inv X pins σ H s) (ea : H a = some (exo a C (some dx))) (ed : H dx = some (exd dx fs)) (hl : fs.length ≤ 900) (hno : PySem.W.findIn X.K (.ref C) f = some none) (ry : RelV y u)
    (hk : ∀ s', Inv X pins σ (upd H dx (exd dx ((f, y) :: fs))) s' → Q () s') : wpAny (model X.prog X.w) A (setAttr (.ref a) f u) Q E s := by
  obtain ⟨t1, oa⟩ := exo_at I.hok ea
  obtain ⟨mA, ns, rl⟩ := exd_at I.hok ed
  have wi := within_of rl
  obtain ⟨hp, g, d, t, os⟩ := s
  obtain ⟨oD, _, _, hoD, _, _⟩ := ns.count wi
  refine PySem.W.set_plain I.kIn (ox := { cls := .ref C, dict := some dx, data := .fields #[.ref t1, .none, .none, .none, .bool false, .none] }) (od := some oD) ⟨oa, rfl, rfl, hoD⟩ T.st ?_
  refine osaA_old T I.kIn oa ns wi (by rw [List.length_map]; omega) hno fun h2 tk2 kp hn => ?_
  obtain ⟨o2, es2, ep2, e2, r2⟩ := hn
  exact hk _ (I.write (t' := tk2) (x := dx) (e := dx) (o := exd dx ((f, y) :: fs)) (by rw [ed]; exact True.intro) (.inl rfl) kp ⟨o2, e2⟩ (exd_ok ⟨o2, es2, ep2, e2, r2⟩ (relO_put ry rl)))
end
/-- self.f = e -/
def tOstA (K : PySem.W.Frag) (f : PySem.Str) (to te : TE) : TS := fun D σ H => te σ H fun y H1 => to σ H1 fun x H2 => ∃ a C : Addr, x = .ref a ∧ OexA K C ∧ PySem.W.findIn K (.ref C) f = some none ∧
  ((H2 a = some (exo a C none) ∧ ∀ dx, H2 dx = none → dx ≠ a → D.nx σ (upd (upd H2 dx (exd dx [(f, y)])) a (exo a C (some dx)))) ∨
    ∃ (dx : Addr) (fs : List (PySem.Str × V)), H2 a = some (exo a C (some dx)) ∧ H2 dx = some (exd dx fs) ∧ fs.length ≤ 900 ∧ D.nx σ (upd H2 dx (exd dx ((f, y) :: fs))))
section
variable {X : Cx} {o e : Expr} {es : List Expr} {to te : TE} {ta : TA} {f : PySem.Str} {p p' pos : Pos}
theorem ps_ostA (ho : PE X o to) (he : PE X e te) (hs : swapsWith e (some (.Attribute o f p')) pos.line X.env = pure false := by rfl) : PS X (.Assign [.Attribute o f p'] e pos) (tOstA X.K f to te) := by
  refine ⟨fun pins s σ H D I h => plainObj_wpAny_Assign_Attribute (thn (he.run pins s σ H _ I h) fun v s1 ⟨y, H1, I1, r1, q1⟩ => thn (ho.run pins s1 σ H1 _ I1 q1) fun u s2 hh => ?_) hs⟩
  obtain ⟨x, H2, I2, r2, a, C, ex, T, hno, q⟩ := hh
  subst ex
  cases (show u = Value.ref a from r2)
  rcases q with ⟨ea, q⟩ | ⟨dx, fs, ea, ed, hl, q⟩
  · exact ostA_new T I2 ea hno r1 fun dx s' n ne J => ⟨σ, _, J, q dx n ne⟩
  · exact ostA_old T I2 ea ed hl hno r1 fun s' J => ⟨σ, _, J, q⟩
theorem pmk_oexA {CX : CXT} {x : PySem.Str} {C fI : Addr} {k : Nat} {fd : FuncData} {ps : List PySem.Str} {sp : Sp} {ds : List Value} {dvs : List V} (T : OexA X.K C) (iC : PySem.W.findIn X.K (.ref C) "__init__" = some (some (.ref fI))) (tI : PySem.W.typeIn X.K (.ref fI) = some (.type "function"))
    (F1 : FnOk X.prog X.w X.K X.mg X.base CX k fI fd ps sp) (hr : Room (k + 1) X.A) (hb : Binds X.K fd ps ds) (hd : Vals dvs ds) (hx : Passes CX X (fun _ _ _ => False)) (hg : Gl X x) (hm : X.mg x = some (.ref C)) (ha : PA X (e :: es) ta)
    (hdb : (x == ("__debug__" : PySem.Str)) = false := by decide) (he : starEach (e :: es) X.env = (false, eval e X.env) :: starEach es X.env := by rfl) (hpl : (backTo pos (starEach es X.env)).any (·.1) = false := by rfl) :
    PMk X (.Call (.Name x p) (e :: es) [] pos) (tMkO C sp dvs ta) := by
  intro pins s σ H Q I h
  obtain ⟨E, nm, q, N, bs, bm, sn, sub, ab, col, dd, k0, k1, k2, k3, k5, hC, hbm⟩ := T.at_
  refine wpAny_Call_Name_kw (ld_glob I hg hm (PySem.W.callWith_K (h₀ := X.base) I.ok.mod.kin T.kp (thn (ha.run pos pins s σ H _ I h) fun us s1 hh => ?_) he hpl) hdb)
  obtain ⟨vs, H1, I1, r1, hz, q1⟩ := hh
  refine ⟨I1.kIn, ?_⟩
  show wpAny _ _ (call (.ref C) us) _ _ _
  obtain ⟨hp, g, dr, tk, os⟩ := s1
  have le1 : hp.objs.size ≤ hp.objs.size + 1 := Nat.le_succ _
  have hq := q1 (hp.objs.size + 1) (I1.hok.fresh le1)
  have keep : ∀ b o, hp.get? b = some o → ((hp.push (PySem.W.kdv_tup us)).push (PySem.HandSPX.excO C hp.objs.size)).get? b = some o := fun b o z => Heap.get?_push_of_some _ (Heap.get?_push_of_some _ z)
  have here : ((hp.push (PySem.W.kdv_tup us)).push (PySem.HandSPX.excO C hp.objs.size)).get? (hp.objs.size + 1) = some (PySem.HandSPX.excO C hp.objs.size) := by heap_get
  have J : Inv X pins σ (upd H1 (hp.objs.size + 1) (exo (hp.objs.size + 1) C none)) ⟨(hp.push (PySem.W.kdv_tup us)).push (PySem.HandSPX.excO C hp.objs.size), g, dr, tk, os⟩ :=
    Inv.laid (h' := (hp.push (PySem.W.kdv_tup us)).push (PySem.HandSPX.excO C hp.objs.size)) (a := hp.objs.size + 1) (o := exo (hp.objs.size + 1) C none) (t' := tk) I1 keep le1 (exo_ok here)
  have rr : Vals (V.ref (hp.objs.size + 1) :: (vs ++ dvs)) (Value.ref (hp.objs.size + 1) :: (us ++ ds)) := .cons rfl (r1.append hd)
  have len1 : (Value.ref (hp.objs.size + 1) :: us ++ ds).length = ps.length := by
    have z := rr.length
    rw [F1.len _ _ _ _ hq] at z
    exact z.symm
  have len2 : us.length ≤ sizeLine := by rw [← Paired.length r1, sizeLine_eq]; omega
  refine wpAny_call (PySem.HandSPX.call_own E.xf (fun Y => PySem.W.excTail_contains Y bm hbm) (I1.kIn _ _ hC) (PySem.W.looks_findIn I1.kIn iC) (fun self => PySem.W.bind_fn I1.kIn self tI) len2 (codeAny_mono (F1.run _ X.stack _ _ ⟨Value.ref (hp.objs.size + 1) :: us, []⟩ (Value.ref (hp.objs.size + 1) :: (us ++ ds)) _ _ (fun _ _ _ => False) (hr.make C us []) (J.env0.make C us []) (hb _ (Value.ref (hp.objs.size + 1) :: us) J.kIn len1) rr hq) fun r s' hq' => ?_))
  match r, hq' with
  | .error er, hq' => exact hx pins σ _ _ er s' J hq'
  | .ok (.ret u), hq' =>
      obtain ⟨v, H2, os2, bare2, un2, hok2, rv, ev, d, fs, ea, ed, hd1, q2⟩ := hq'
      subst ev
      obtain ⟨h2, g2, d2, t2, os'⟩ := s'
      exact ⟨rv, mk_end (raises_own T.sub T.ty) I1 le1 keep un2 hok2 os2 bare2 ea ed hd1 q2⟩
  | .ok .next, hq' => exact False.elim hq'
  | .ok .brk, hq' => exact False.elim hq'
  | .ok .cont, hq' => exact False.elim hq'
end
end DL
set_option Elab.async false
set_option linter.all false
set_option maxRecDepth 100000
set_option maxHeartbeats 4000000
/-! DLn: raise of a two-field error; try .. except .. as. -/
namespace DL
open PySem PySem.Spec PyProof.Rows L2

/-! ### __init__(self, f1, f2) -/
def spI2 (C : Addr) (f1 f2 : PySem.Str) : Sp := fun vs H Q _ => ∃ a v w, vs = [V.ref a, v, w] ∧ H a = some (exo a C none) ∧ ∀ d, H d = none → d ≠ a → Q .non (upd (upd (upd H d (exd d [(f1, v)])) a (exo a C (some d))) d (exd d [(f2, w), (f1, v)]))
theorem pure_i2 {K : PySem.W.Frag} {C : Addr} {f1 f2 x0 x1 x2 : PySem.Str} (T : OexA K C) (h1 : PySem.W.findIn K (.ref C) f1 = some none) (h2 : PySem.W.findIn K (.ref C) f2 = some none) (vs : List V) (H : Hp) (Q : VK) (E : XK) (h : spI2 C f1 f2 vs H Q E) :
    tSeq (tOstA K f1 (tVar 0) (tVar 1)) (tOstA K f2 (tVar 0) (tVar 2)) { nx := fun _ H' => Q .non H', rt := Q } (L2.start [x0, x1, x2] vs) H := by
  obtain ⟨a, v, w, rfl, ha, k⟩ := h
  refine ⟨v, rfl, .ref a, rfl, a, C, rfl, T, h1, .inl ⟨ha, fun dx hn ne => ?_⟩⟩
  refine ⟨w, rfl, .ref a, rfl, a, C, rfl, T, h2, .inr ⟨dx, [(f1, v)], upd_same, ?_, by show 1 ≤ 900; decide, k dx hn ne⟩⟩
  rw [upd_ne ne, upd_same]

/-! ### raise -/
theorem hp_exc {H : Hp} {a d : Addr} {x y z w v : HO} (ha : H a = none) (ne : d ≠ a) : upd (L2.del (upd (upd (upd (upd H a x) d y) a z) d w) a) d v = upd H d v := by
  funext b
  by_cases h1 : b = d
  · rw [h1, upd_same, upd_same]
  · rw [upd_ne h1, upd_ne h1]
    by_cases h2 : b = a
    · rw [h2, del_same, ha]
    · rw [del_ne h2, upd_ne h1, upd_ne h2, upd_ne h1, upd_ne h2]
def sRaise2 (C f1 f2 : PySem.Str) (g : Ev (List D)) : Es := fun Γ S => bindS Γ (g Γ S) fun ds S1 => match ds with
  | [a, b] => .ex C [(f2, b), (f1, a)] Γ S1
  | _ => .no
section
variable {X : Cx} {B : Base} {W : WX} {e : Expr} {es : List Expr} {g : Ev (List D)} {x f1 f2 : PySem.Str} {p cpos pos : Pos}
theorem ds_raise2 {fI : Addr} {k : Nat} {fd : FuncData} {ps : List PySem.Str} (hc : X.calm = true) (tk : Takes X W) (T : OexA X.K (He.ga X.K x)) (iC : PySem.W.findIn X.K (.ref (He.ga X.K x)) "__init__" = some (some (.ref fI))) (tI : PySem.W.typeIn X.K (.ref fI) = some (.type "function"))
    (F1 : FnOk X.prog X.w X.K X.mg X.base (fun _ _ _ _ _ _ => False) k fI fd ps (spI2 (He.ga X.K x) f1 f2)) (hr : Room (k + 1) X.A) (hb : Binds X.K fd ps []) (hg : Gl X x) (hm : X.mg x = some (.ref (He.ga X.K x))) (ha : DA X W (e :: es) g)
    (hdb : (x == ("__debug__" : PySem.Str)) = false := by decide) (he : starEach (e :: es) X.env = (false, eval e X.env) :: starEach es X.env := by rfl) (hpl : (backTo cpos (starEach es X.env)).any (·.1) = false := by rfl) :
    DS X B W (.Raise (some (.Call (.Name x p) (e :: es) [] cpos)) none pos) (sRaise2 x f1 f2 g) := by
  intro fl ml
  refine PS_imp (ps_raise hc tk (pmk_oexA (dvs := []) (sp := spI2 (He.ga X.K x) f1 f2) T iC tI F1 hr hb .nil (fun _ _ _ _ _ _ _ h => h.elim) hg hm ha hdb he hpl)) fun E σ H ⟨Γ, S, Hf, μ, rl, o⟩ => ?_
  refine ⟨Γ, S, Hf, μ, rl.sl, rl.so, SOut.bind rl o fun ds S1 vs H1 Hf1 μ1 _ s1 r1 re o1 => ?_⟩
  match ds, re, o1 with
  | [d1, d2], re, o1 =>
    obtain ⟨v, w, rfl, q1, q2⟩ := RepL.two re
    refine ⟨by show 2 ≤ 1000; decide, fun a hn => ⟨a, v, w, rfl, upd_same, fun d hd ne => ⟨rfl, d, _, ?_, upd_same, ?_, ?_⟩⟩⟩
    · rw [upd_ne ne.symm, upd_same]
    · rw [upd_ne ne] at hd; exact hd
    · rw [upd_ne ne] at hd
      rw [hp_exc hn ne]
      obtain ⟨st, so2⟩ := Step.lay (u := .xd [(f2, w), (f1, v)]) r1.so hd
      refine o1 d [(f2, w), (f1, v)] σ _ _ μ1 (r1.step st so2) upd_same ?_
      exact ⟨w, _, rfl, st.rep q2, v, _, rfl, st.rep q1, rfl⟩
end

/-! ### one field -/
def spI1 (C : Addr) (f1 : PySem.Str) : Sp := fun vs H Q _ => ∃ a v, vs = [V.ref a, v] ∧ H a = some (exo a C none) ∧ ∀ d, H d = none → d ≠ a → Q .non (upd (upd H d (exd d [(f1, v)])) a (exo a C (some d)))
theorem pure_i1 {K : PySem.W.Frag} {C : Addr} {f1 x0 x1 : PySem.Str} (T : OexA K C) (h1 : PySem.W.findIn K (.ref C) f1 = some none) (vs : List V) (H : Hp) (Q : VK) (E : XK) (h : spI1 C f1 vs H Q E) :
    tOstA K f1 (tVar 0) (tVar 1) { nx := fun _ H' => Q .non H', rt := Q } (L2.start [x0, x1] vs) H := by
  obtain ⟨a, v, rfl, ha, k⟩ := h
  exact ⟨v, rfl, .ref a, rfl, a, C, rfl, T, h1, .inl ⟨ha, fun dx hn ne => k dx hn ne⟩⟩
theorem hp_exc1 {H : Hp} {a d : Addr} {x y z v : HO} (ha : H a = none) (ne : d ≠ a) : upd (L2.del (upd (upd (upd H a x) d y) a z) a) d v = upd H d v := by
  funext b
  by_cases h1 : b = d
  · rw [h1, upd_same, upd_same]
  · rw [upd_ne h1, upd_ne h1]
    by_cases h2 : b = a
    · rw [h2, del_same, ha]
    · rw [del_ne h2, upd_ne h2, upd_ne h1, upd_ne h2]
def sRaise1 (C f1 : PySem.Str) (g : Ev (List D)) : Es := fun Γ S => bindS Γ (g Γ S) fun ds S1 => match ds with
  | [a] => .ex C [(f1, a)] Γ S1
  | _ => .no
section
variable {X : Cx} {B : Base} {W : WX} {e : Expr} {es : List Expr} {g : Ev (List D)} {x f1 : PySem.Str} {p cpos pos : Pos}
theorem ds_raise1 {fI : Addr} {k : Nat} {fd : FuncData} {ps : List PySem.Str} (hc : X.calm = true) (tk : Takes X W) (T : OexA X.K (He.ga X.K x)) (iC : PySem.W.findIn X.K (.ref (He.ga X.K x)) "__init__" = some (some (.ref fI))) (tI : PySem.W.typeIn X.K (.ref fI) = some (.type "function"))
    (F1 : FnOk X.prog X.w X.K X.mg X.base (fun _ _ _ _ _ _ => False) k fI fd ps (spI1 (He.ga X.K x) f1)) (hr : Room (k + 1) X.A) (hb : Binds X.K fd ps []) (hg : Gl X x) (hm : X.mg x = some (.ref (He.ga X.K x))) (ha : DA X W (e :: es) g)
    (hdb : (x == ("__debug__" : PySem.Str)) = false := by decide) (he : starEach (e :: es) X.env = (false, eval e X.env) :: starEach es X.env := by rfl) (hpl : (backTo cpos (starEach es X.env)).any (·.1) = false := by rfl) :
    DS X B W (.Raise (some (.Call (.Name x p) (e :: es) [] cpos)) none pos) (sRaise1 x f1 g) := by
  intro fl ml
  refine PS_imp (ps_raise hc tk (pmk_oexA (dvs := []) (sp := spI1 (He.ga X.K x) f1) T iC tI F1 hr hb .nil (fun _ _ _ _ _ _ _ h => h.elim) hg hm ha hdb he hpl)) fun E σ H ⟨Γ, S, Hf, μ, rl, o⟩ => ?_
  refine ⟨Γ, S, Hf, μ, rl.sl, rl.so, SOut.bind rl o fun ds S1 vs H1 Hf1 μ1 _ s1 r1 re o1 => ?_⟩
  match ds, re, o1 with
  | [d1], re, o1 =>
    obtain ⟨v, rfl, q1⟩ := RepL.one re
    refine ⟨by show 1 ≤ 1000; decide, fun a hn => ⟨a, v, rfl, upd_same, fun d hd ne => ⟨rfl, d, [(f1, v)], upd_same, ?_, ?_, ?_⟩⟩⟩
    · rw [upd_ne ne, upd_same]
    · rw [upd_ne ne] at hd; exact hd
    · rw [upd_ne ne] at hd
      rw [hp_exc1 hn ne]
      obtain ⟨st, so2⟩ := Step.lay (u := .xd [(f1, v)]) r1.so hd
      refine o1 d [(f1, v)] σ _ _ μ1 (r1.step st so2) upd_same ?_
      exact ⟨v, _, rfl, st.rep q1, rfl⟩
end

/-! ### what the suite reads of the error -/
theorem frep_get {K : PySem.W.Frag} {μ : List Addr} {Hf : Hp} {f : PySem.Str} {d : D} : ∀ {fs : List (PySem.Str × D)} {fv : List (PySem.Str × V)}, FRep K μ Hf fs fv → fs.lookup f = some d → ∃ v, fv.lookup f = some v ∧ Rep K μ Hf d v
  | [], _, _, h => by cases h
  | (g, c) :: fs, fv, r, h => by
    obtain ⟨x, t, rfl, q, r⟩ := r
    rw [List.lookup_cons] at h ⊢
    cases e : (f == g) with
    | true => rw [e] at h; cases h; exact ⟨x, rfl, q⟩
    | false => rw [e] at h; exact frep_get r h
def tQ (K : PySem.W.Frag) (a dd : Addr) (fs : List (PySem.Str × D)) (i : Nat) (f : Ev D) : TE := fun σ H Q => ∃ Γ S Hf μ fv, SlOk K Γ σ H Hf μ ∧ StoOk K S H Hf μ ∧ σ[i]? = some (some (V.ref a)) ∧ Hf dd = some (.xd fv) ∧ FRep K μ Hf fs fv ∧ Out K (RepR K) W0 σ H Hf μ (f Γ S) Q
def tQs (K : PySem.W.Frag) (a dd : Addr) (fs : List (PySem.Str × D)) (i : Nat) (f : Ev (List D)) : TA := fun σ H Q => ∃ Γ S Hf μ fv, SlOk K Γ σ H Hf μ ∧ StoOk K S H Hf μ ∧ σ[i]? = some (some (V.ref a)) ∧ Hf dd = some (.xd fv) ∧ FRep K μ Hf fs fv ∧ Out K (RepLR K) W0 σ H Hf μ (f Γ S) Q
def eFld (f : PySem.Str) (fs : List (PySem.Str × D)) : Ev D := fun _ S => match fs.lookup f with
  | some d => .ok d S
  | none => .no
/-- the facts of the class: fields are read, isinstance asked -/
structure ExF (K : PySem.W.Frag) (C : Addr) : Prop where
  ga : PySem.W.findIn K (.ref C) "__getattribute__" = some (some (.builtin "BaseException.__getattribute__"))
  gg : PySem.W.findIn K (.ref C) "__getattr__" = some none
  su : PySem.W.subIn K (.ref C) (.type "BaseException") = some true
  hd : PySem.W.hasDictIn K C = true
  cl : PySem.W.findIn K (.ref C) "__class__" = some (some (.builtin "object.__class__"))
  sp : PySem.W.specialIn K (.builtin "object.__class__") "__get__" = some (some (.builtin "getset_descriptor.__get__"))
  tk : PySem.W.takesIn K (.builtin "object.__class__") = some true
  ob : PySem.W.mroIn K C (.type "object") = some true
def exFB (K : PySem.W.Frag) (C : Addr) : Bool := decide (PySem.W.findIn K (.ref C) "__getattribute__" = some (some (.builtin "BaseException.__getattribute__"))) && (decide (PySem.W.findIn K (.ref C) "__getattr__" = some none) && (decide (PySem.W.subIn K (.ref C) (.type "BaseException") = some true) &&
  (PySem.W.hasDictIn K C && (decide (PySem.W.findIn K (.ref C) "__class__" = some (some (.builtin "object.__class__"))) && (decide (PySem.W.specialIn K (.builtin "object.__class__") "__get__" = some (some (.builtin "getset_descriptor.__get__"))) &&
  (decide (PySem.W.takesIn K (.builtin "object.__class__") = some true) && decide (PySem.W.mroIn K C (.type "object") = some true)))))))
theorem exF_of {K : PySem.W.Frag} {C : Addr} (h : exFB K C = true) : ExF K C := by
  simp only [exFB, Bool.and_eq_true, decide_eq_true_eq] at h
  obtain ⟨h1, h2, h3, h4, h5, h6, h7, h8⟩ := h
  exact ⟨h1, h2, h3, h4, h5, h6, h7, h8⟩
theorem kitE {K : PySem.W.Frag} {C x : Addr} {ox : Obj} {od : Option Obj} (T : ExF K C) : PySem.W.KitX K (.ref x) (.ref C) (fun h => PySem.W.InstAt h x ox C od) where
  ty := fun _ _ _ I => I.type
  it := fun _ _ X _ => by
    obtain ⟨cd, hc, _⟩ := PySem.W.any_some T.hd
    unfold PySem.W.clsIn at hc
    split at hc
    next ho => exact fun A' Q' E' s' k q => by unfold isType loadHead; exact wpAny_bind (wpAny_loadPart (k _ _ (X _ _ ho)) (wpAny_pure q))
    · cases hc
  ne := fun h tp dd its n sl X htp => by
    obtain ⟨cd, hc, _⟩ := PySem.W.any_some T.hd
    refine Bool.eq_false_iff.mpr fun q => ?_
    have e : C = tp := Value.ref.inj (beq_iff_eq.mp q)
    subst e
    unfold PySem.W.clsIn at hc
    split at hc
    next ho => have z := (X _ _ ho).symm.trans htp; cases z
    · cases hc
  ca := fun X I k => by
    obtain ⟨cd, hc, _⟩ := PySem.W.any_some T.hd
    exact PySem.W.kx_classE X I T.ga T.gg T.su (PySem.W.findObj_dataE (by rw [hc]; rfl) T.cl T.sp T.tk) T.ob k
section
variable {X : Cx} {a dd : Addr} {oe : Obj} {pn : List (Addr × Obj)} {fs : List (PySem.Str × D)} {i : Nat} {C x : PySem.Str} {e : Expr} {es : List Expr} {f : Ev D} {g : Ev (List D)} {pos p p2 : Pos}
abbrev DQ (X : Cx) (a dd : Addr) (fs : List (PySem.Str × D)) (i : Nat) (e : Expr) (f : Ev D) : Prop := PE X e (tQ X.K a dd fs i f)
abbrev DQs (X : Cx) (a dd : Addr) (fs : List (PySem.Str × D)) (i : Nat) (es : List Expr) (f : Ev (List D)) : Prop := PA X es (tQs X.K a dd fs i f)
theorem q_of (h : DE X W0 e f) : DQ X a dd fs i e f := PE_imp h fun σ H Q ⟨Γ, S, Hf, μ, fv, sl, so, _, _, _, o⟩ => ⟨Γ, S, Hf, μ, sl, so, o⟩
theorem qs_nil : DQs X a dd fs i [] aNil := PA_imp pa_nil fun σ H Q ⟨Γ, S, Hf, μ, fv, sl, so, _, _, _, o⟩ => o [] H Hf μ (Step.refl _ _ _) so RepL.nil
theorem qs_cons (h : DQ X a dd fs i e f) (k : DQs X a dd fs i es g) (hs : starEach (e :: es) X.env = (false, eval e X.env) :: starEach es X.env := by rfl) : DQs X a dd fs i (e :: es) (aCons f g) :=
  PA_imp (pa_cons h k hs) fun σ H Q ⟨Γ, S, Hf, μ, fv, sl, so, hi, hd, hr, o⟩ => ⟨Γ, S, Hf, μ, fv, sl, so, hi, hd, hr, Out.bind sl rm_repL o fun d S1 v H1 Hf1 μ1 _ s1 sl1 so1 r1 o1 =>
    ⟨Γ, S1, Hf1, μ1, fv, sl1, so1, hi, s1.fz _ _ hd, KRep.mono s1.fz s1.mu hr, Out.bind sl1 rm_repL o1 fun ds S2 vs H2 Hf2 μ2 _ s2 sl2 so2 r2 o2 => o2 (v :: vs) H2 Hf2 μ2 (Step.refl _ _ _) so2 (RepL.cons (s2.rep r1) r2)⟩⟩
/-- e.f -/
theorem q_fld {fl : PySem.Str} (T : ExF X.K (He.ga X.K C)) (hno : PySem.W.findIn X.K (.ref (He.ga X.K C)) fl = some none) (hz : Zc (.ref (He.ga X.K C)) (some dd) oe) (hf : ∃ vs, oe.data = .fields vs)
    (hN : (X.suite a ((a, oe) :: pn)).N[i]? = some x := by rfl) (hv : Vis (X.suite a ((a, oe) :: pn)).env.scope x := by first | exact Or.inl rfl | exact Or.inr (Or.inl rfl) | exact Or.inr (Or.inr rfl)) (hd : (x == ("__debug__" : PySem.Str)) = false := by decide) (hcd : (x == ("__classdict__" : PySem.Str)) = false := by decide)
    (hb : attributeBase (.Name x p) fl X.env (eval (.Name x p) X.env) = eval (.Name x p) X.env := by rfl) : DQ (X.suite a ((a, oe) :: pn)) a dd fs i (.Attribute (.Name x p) fl pos) (eFld fl fs) :=
  PE_imp (pe_xf ⟨T.ga, T.gg, T.su, T.hd⟩ hno hz hf (pe_var (i := i) hN hv hd hcd) hb) fun σ H Q ⟨Γ, S, Hf, μ, fv, sl, so, hi, hd, hr, o⟩ => by
    unfold eFld at o
    cases e : fs.lookup fl with
    | none => rw [e] at o; exact o.elim
    | some d =>
      rw [e] at o
      obtain ⟨v, h1, h2⟩ := frep_get hr e
      exact ⟨.ref a, hi, rfl, rfl, dd, fv, v, rfl, so.sub _ _ hd, h1, o v H Hf μ (Step.refl _ _ _) so h2⟩
/-- isinstance(e, an own class) -/
theorem call_isX {c : Addr} {b : Bool} (T : ExF X.K (He.ga X.K C)) (hk : PySem.W.kitOne X.K (.ref (He.ga X.K C)) (.ref c) = some b) (hz : Zc (.ref (He.ga X.K C)) (some dd) oe) (hf : ∃ vs, oe.data = .fields vs) :
    CallR (X.suite a ((a, oe) :: pn)) (.builtin "isinstance") (fun xs H Q => xs = [.ref a, .ref c] ∧ (∃ fv, H dd = some (.xd fv)) ∧ Q (.bl b) H) := by
  intro pins s σ H xs us Q I r h
  obtain ⟨rfl, ⟨fv, hdd⟩, q⟩ := h
  obtain ⟨u1, u2, rfl, r1, r2⟩ := vals2 r
  cases (show u1 = Value.ref a from r1)
  cases (show u2 = Value.ref c from r2)
  obtain ⟨hget, _⟩ := I.pin (a, oe) (List.mem_append.mpr (.inl List.mem_cons_self))
  obtain ⟨vs, hv⟩ := hf
  have hx : ObjOk X.prog X.w H s.heap dd (.xd fv) := I.hok dd _ hdd
  obtain ⟨mA, hns, _⟩ := hx
  obtain ⟨od, ho, _⟩ := lookIn_ns hns
  have J : PySem.W.InstAt s.heap a oe (He.ga X.K C) (some od) := ⟨hget, hz.1, by unfold PySem.W.notCls; rw [hv] <;> rfl, by rw [hz.2]; exact ho⟩
  exact PySem.W.kia_one (kitE T) I.kIn J hk (fun z => nomatch z) fun tk => ⟨.bl b, H, I.kept (t' := tk) fun _ _ z => z, rfl, q⟩
theorem q_isi {y : PySem.Str} {b : Bool} {n1 n2 : Pos} (T : ExF X.K (He.ga X.K C)) (hk : PySem.W.kitOne X.K (.ref (He.ga X.K C)) (.ref (He.ga X.K y)) = some b) (hz : Zc (.ref (He.ga X.K C)) (some dd) oe) (hf : ∃ vs, oe.data = .fields vs)
    (hg : Gl X "isinstance") (hm : X.mg "isinstance" = none) (hgy : Gl X y) (hmy : X.mg y = some (.ref (He.ga X.K y))) (hv' : bootBuiltins "isinstance" = some (.builtin "isinstance"))
    (hN : (X.suite a ((a, oe) :: pn)).N[i]? = some x := by rfl) (hv : Vis (X.suite a ((a, oe) :: pn)).env.scope x := by first | exact Or.inl rfl | exact Or.inr (Or.inl rfl) | exact Or.inr (Or.inr rfl)) (hd : (x == ("__debug__" : PySem.Str)) = false := by decide) (hcd : (x == ("__classdict__" : PySem.Str)) = false := by decide)
    (hdy : (y == ("__debug__" : PySem.Str)) = false := by decide)
    (he : starEach [.Name x n1, .Name y n2] X.env = (false, eval (.Name x n1) X.env) :: starEach [.Name y n2] X.env := by rfl) (he2 : starEach [.Name y n2] X.env = (false, eval (.Name y n2) X.env) :: starEach [] X.env := by rfl)
    (hpl : (backTo pos (starEach [.Name y n2] X.env)).any (·.1) = false := by rfl) :
    DQ (X.suite a ((a, oe) :: pn)) a dd fs i (.Call (.Name "isinstance" p) [.Name x n1, .Name y n2] [] pos) (eC (.bl b)) :=
  PE_imp (pe_callB (call_isX T hk hz hf) hg hm hv' (pa_cons (pe_var (i := i) hN hv hd hcd) (pa_cons (pe_glob (v := .ref (He.ga X.K y)) hgy hmy rfl hdy) pa_nil he2) he) (by decide) (by decide) he hpl) fun σ H Q ⟨Γ, S, Hf, μ, fv, sl, so, hi, hd, hr, o⟩ =>
    ⟨.ref a, hi, rfl, ⟨fv, so.sub _ _ hd⟩, o (.bl b) H Hf μ (Step.refl _ _ _) so (by simp only [Rep])⟩
end

/-! ### try .. except C as e: one statement y = [..] -/
def tSu (K : PySem.W.Frag) (B : Base) (a dd : Addr) (fs : List (PySem.Str × D)) (i : Nat) (f : Es) : TS := fun E σ H => ∃ Γ S Hf μ fv, Rl K B Γ S σ H Hf μ ∧ σ[i]? = some (some (V.ref a)) ∧ Hf dd = some (.xd fv) ∧ FRep K μ Hf fs fv ∧ SOut K B W0 E (f Γ S)
/-- a new list, frozen -/
def eLs (g : Ev (List D)) : Ev D := fun Γ S => (g Γ S).bind fun ds S1 => if ds.length ≤ sizeLine then .ok (.lst ds) S1 else .no
theorem SlOk.forget {K : PySem.W.Frag} {B : Base} {Γ : Gm} {S : Store} {σ : L2.St} {H Hf : Hp} {μ : List Addr} (r : Rl K B Γ S σ H Hf μ) (i : Nat) (x : Option V) : Rl K B (Γ.set i none) S (σ.set i x) H Hf μ :=
  ⟨r.sl.setO i x, r.so, r.st, fun j o p e1 e2 => by
    by_cases hj : i = j
    · subst hj
      by_cases hl : i < Γ.length
      · rw [List.getElem?_set_self hl] at e1; cases e1
      · rw [List.getElem?_eq_none (by rw [List.length_set]; omega)] at e1; cases e1
    · rw [List.getElem?_set_ne hj] at e1 e2
      exact r.own j o p e1 e2, r.fz, r.pm⟩
section
variable {X : Cx} {a dd : Addr} {oe : Obj} {pn : List (Addr × Obj)} {fs : List (PySem.Str × D)} {i j : Nat} {e : Expr} {g : Ev (List D)} {y : PySem.Str} {pos p p2 : Pos} {es : List Expr}
/-- y = [..] in the suite -/
theorem su_set {B : Base} (j : Nat) (h : DQs X a dd fs i es g) (hN : X.N.Nodup) (hi : X.N[j]? = some y := by rfl) (hx : Loc X.env.scope y := by first | exact Or.inl rfl | exact Or.inr rfl)
    (hs : swapsWith (.List es p2) (some (.Name y p)) pos.line X.env = pure false := by rfl) (hf : X.fn y = true ∨ X.env.scope.names.lookup y = some .local := by first | exact .inl rfl | exact .inr rfl | assumption) :
    PSs X [.Assign [.Name y p] (.List es p2) pos] (tSu X.K B a dd fs i (sSet j (eLs g))) :=
  PSs_imp (pss_one (ps_set hN hi hx (pe_lst h) hs hf)) fun E σ H ⟨Γ, S, Hf, μ, fv, r, hi, hd, hr, o⟩ => by
    unfold sSet eLs at o
    refine ⟨Γ, S, Hf, μ, fv, r.sl, r.so, hi, hd, hr, ?_⟩
    cases e1 : g Γ S with
    | no => rw [e1] at o; exact o
    | ex C gs S1 => rw [e1] at o; exact fun dd2 gv H1 Hf1 μ1 s1 so1 z1 z2 => o dd2 gv σ H1 Hf1 μ1 (r.step s1 so1) z1 z2
    | ok ds S1 =>
      rw [e1, RE.bind_ok] at o
      intro vs H1 Hf1 μ1 s1 so1 r1
      split at o
      next hz =>
        refine ⟨by rw [RepL.length r1]; exact hz, fun q hq => ?_⟩
        obtain ⟨st, so2⟩ := Step.lay (u := .lst vs) so1 hq
        exact o _ _ _ _ (((r.step s1 so1).step st so2).setV j (d := .lst ds) (v := .ref q) (by simp only [Rep]; exact ⟨q, vs, rfl, upd_same, by rw [RepL.length r1]; exact hz, st.repL r1⟩))
      · exact o.elim
end
def sTryAs (i : Nat) (C : PySem.Str) (fb : Es) (fsu : List (PySem.Str × D) → Es) : Es := fun Γ S => match fb Γ S with
  | .ex C' fs Γ' S' => if C' = C ∧ i < Γ'.length then (match fsu fs (Γ'.set i none) S' with
    | .nx Γ2 S2 => .nx (Γ2.set i none) S2
    | .rt d S2 => .rt d S2
    | _ => .no) else .no
  | r => r
section
variable {X : Cx} {B : Base} {W : WX} {x n : PySem.Str} {i : Nat} {body suite : List Stmt} {b0 : Stmt} {np pos pos' : Pos} {fb : Es} {fsu : List (PySem.Str × D) → Es}
theorem ds_tryAs (hN : X.N.Nodup) (hi : X.N[i]? = some n) (hln : X.env.kindOf n = some .local) (hs : X.stack = X.env :: X.outer) (hf : X.env.frame = some X.env.locals) (hg : Gl X x) (hm : X.mg x = some (.ref (He.ga X.K x))) (tk : Takes X W)
    (hex : PySem.W.exmOne X.K (.ref (He.ga X.K x)) (.ref (He.ga X.K x)) = some true)
    (hb : ∀ (W' : WX) (pn : List (Addr × Obj)) (xe : Value → Shared → Prop), Takes (X.tr pn xe) W' → PassesOwn (model X.prog X.w) X.A X.env xe → DSs (X.tr pn xe) B W' body fb)
    (hsu : ∀ (a dd : Addr) (oe : Obj) (fs : List (PySem.Str × D)) (pn : List (Addr × Obj)) (B' : Base), Zc (.ref (He.ga X.K x)) (some dd) oe → (∃ vs, oe.data = .fields vs) → PSs (X.suite a ((a, oe) :: pn)) (b0 :: suite) (tSu X.K B' a dd fs i (fsu fs)))
    (hdb : (x == ("__debug__" : PySem.Str)) = false := by decide) :
    DS X B W (.Try body [.ExceptHandler (some (.Name x np)) (some n) (b0 :: suite) pos'] [] [] pos) (sTryAs i x fb fsu) := by
  intro fl ml
  let ts : Addr → Value → Option Addr → TS := fun a cls d E σ H => ∃ dd fs, d = some dd ∧ cls = .ref (He.ga X.K x) ∧ tSu X.K (B.at fl ml) a dd fs i (fsu fs) E σ H
  refine PS_imp (ps_try_as (c := .ref (He.ga X.K x)) (ts := ts) (Wout := W) (tb := fun W' => tS X.K (B.at fl ml) W' fb) hs hf hN hi hln ⟨hg, hdb, .inl hm⟩ tk (fun W' pn xe h1 h2 => hb W' pn xe h1 h2 fl ml) fun a oe cls d pn hz hv => ?_) fun E σ H ⟨Γ, S, Hf, μ, r, o⟩ => ⟨Γ, S, Hf, μ, r, ?_⟩
  · refine ⟨fun pins s σ H E I h => ?_⟩
    obtain ⟨dd, fs, rfl, rfl, h⟩ := h
    exact (hsu a dd oe fs pn _ hz hv).run pins s σ H E I h
  · unfold sTryAs at o
    cases e : fb Γ S with
    | nx Γ' S' => rw [e] at o; exact o
    | rt d S' => rw [e] at o; exact o
    | bk Γ' S' => rw [e] at o; exact o
    | ct Γ' S' => rw [e] at o; exact o
    | no => rw [e] at o; exact o
    | ex C' fs Γ' S' =>
      simp only [e] at o
      split at o
      next hC =>
        obtain ⟨rfl, hlt⟩ := hC
        intro dd fv σ' H' Hf' μ' r' hd hr
        refine ⟨true, hex, fun _ a ha => ⟨dd, fs, rfl, rfl, Γ'.set i none, S', Hf', μ', fv, SlOk.forget r' i _, ?_, hd, hr, ?_⟩, fun z => nomatch z⟩
        · have hl : i < σ'.length := by
            rw [← r'.sl.len]
            exact hlt
          exact List.getElem?_set_self hl
        · cases e2 : fsu fs (Γ'.set i none) S' with
          | nx Γ2 S2 =>
            simp only [e2] at o
            exact fun σ2 H2 Hf2 μ2 r2 => o _ _ _ _ (SlOk.forget r2 i none)
          | rt d S2 => simp only [e2] at o; exact o
          | bk Γ2 S2 => simp only [e2] at o; exact o.elim
          | ct Γ2 S2 => simp only [e2] at o; exact o.elim
          | ex C2 fs2 Γ2 S2 => simp only [e2] at o; exact o.elim
          | no => simp only [e2] at o; exact o.elim
      · exact o.elim
end
end DL
set_option Elab.async false
set_option linter.all false
set_option maxRecDepth 100000
set_option maxHeartbeats 4000000
/-! DLq: texts; get with a default; lists joined anew. -/
namespace DL
open PySem PySem.Spec PyProof.Rows L2
theorem callR_or {X : Cx} {f : Value} {r r' : List V → Hp → VK → Prop} (h : CallR X f r) (h' : CallR X f r') : CallR X f (fun xs H Q => r xs H Q ∨ r' xs H Q) := fun pins s σ H xs us Q I rv q =>
  q.elim (fun q => h pins s σ H xs us Q I rv q) fun q => h' pins s σ H xs us Q I rv q
/-! ### str of an int, int of a text -/
section
variable {K : PySem.W.Frag}
def bStr : OpN := op1 fun _ d => match d with
  | .int i => if i.natAbs.log2 < 1920 then some (.str (toString i)) else none
  | _ => none
theorem cb_str : CallB K (fun xs H Q => ∃ i, xs = [.int i] ∧ i.natAbs.log2 < 1920 ∧ Q (.str (toString i)) H) bStr := callB_one fun S H Hf μ x d c Q so bx e k => by
  cases d <;> first | (cases e; done) | skip
  rename_i i
  simp only at e
  split at e
  next hz => cases e; exact ⟨i, by rw [bx.int], hz, k _ H Hf μ (Step.refl _ _ _) so (by simp only [Rep])⟩
  · cases e
def bIntS : OpN := op1 fun _ d => match d with
  | .int i => some (.int i)
  | .bl b => some (.int (if b then 1 else 0))
  | .str a => if a.length ≤ 640 then (PySem.intText? a).map .int else none
  | _ => none
theorem call_intS {X : Cx} : CallR X (.type "int") (fun xs H Q => ((∃ i, xs = [.int i] ∧ Q (.int i) H) ∨ ∃ k, xs = [.bl k] ∧ Q (.int (if k then 1 else 0)) H) ∨ ∃ a n, xs = [.str a] ∧ PySem.intText? a = some n ∧ a.length ≤ 640 ∧ Q (.int n) H) := callR_or call_int1 call_int_str
theorem cb_intS : CallB K (fun xs H Q => ((∃ i, xs = [.int i] ∧ Q (.int i) H) ∨ ∃ k, xs = [.bl k] ∧ Q (.int (if k then 1 else 0)) H) ∨ ∃ a n, xs = [.str a] ∧ PySem.intText? a = some n ∧ a.length ≤ 640 ∧ Q (.int n) H) bIntS := callB_one fun S H Hf μ x d c Q so bx e k => by
  cases d <;> first | (cases e; done) | skip
  · cases e
    exact .inl (.inr ⟨_, by rw [bx.bl], k _ H Hf μ (Step.refl _ _ _) so (by simp only [Rep])⟩)
  · cases e
    exact .inl (.inl ⟨_, by rw [bx.int], k _ H Hf μ (Step.refl _ _ _) so (by simp only [Rep])⟩)
  · rename_i a
    simp only at e
    split at e
    next hz =>
      cases e2 : PySem.intText? a with
      | none => rw [e2] at e; cases e
      | some n => rw [e2] at e; cases e; exact .inr ⟨a, n, by rw [bx.str], e2, hz, k _ H Hf μ (Step.refl _ _ _) so (by simp only [Rep])⟩
    · cases e
end
/-! ### split, join -/
def eSplit (f g : Ev D) : Ev D := fun Γ S => (f Γ S).bind fun x S1 => match x with
  | .str a => (g Γ S1).bind fun y S2 => (match y with
    | .str b => if (b.length == 0) = false ∧ a.length + 2 ≤ sizeLine ∧ (Txt.split a b).length ≤ sizeLine then .ok (.lst ((Txt.split a b).map .str)) S2 else .no
    | _ => .no)
  | _ => .no
theorem repL_strs {K : PySem.W.Frag} {μ : List Addr} {Hf : Hp} : ∀ ys : List PySem.Str, RepL K μ Hf (ys.map .str) (ys.map V.str)
  | [] => RepL.nil
  | y :: ys => RepL.cons (by simp only [Rep]) (repL_strs ys)
section
variable {X : Cx} {W : WX} {o e : Expr} {fo fe : Ev D} {apos pos : Pos}
theorem de_split (ho : DE X W o fo) (he : DE X W e fe) (hs : starEach [e] X.env = [(false, eval e X.env)] := by rfl)
    (hbase : attributeBase o "split" X.env (eval o X.env) = eval o X.env := by rfl) (hline : (apos.endLine == pos.line) = true := by rfl) : DE X W (.Call (.Attribute o "split" apos) [e] [] pos) (eSplit fo fe) :=
  PE_imp (pe_m1 F.slot_str_split F.type_str_split mt_split ho he hs hbase hline) fun σ H Q ⟨Γ, S, Hf, μ, sl, so, h⟩ => ⟨Γ, S, Hf, μ, sl, so, Out.bind sl rm_rep h fun d S1 v H1 Hf1 μ1 _ s1 sl1 so1 r1 o1 => by
    cases d with
    | str a =>
      obtain rfl : v = .str a := by simpa only [Rep] using r1
      refine ⟨⟨a, rfl⟩, Γ, S1, Hf1, μ1, sl1, so1, Out.bind sl1 rm_rep o1 fun d2 S2 v2 H2 Hf2 μ2 _ s2 sl2 so2 r2 o2 => ?_⟩
      cases d2 with
      | str b =>
        obtain rfl : v2 = .str b := by simpa only [Rep] using r2
        simp only at o2
        split at o2
        next hz =>
          refine ⟨a, b, rfl, rfl, hz.1, hz.2.1, fun p hp => ?_⟩
          obtain ⟨st, so3⟩ := Step.lay (u := .lst ((Txt.split a b).map V.str)) so2 hp
          exact o2 _ _ _ _ st so3 (by simp only [Rep]; exact ⟨p, _, rfl, upd_same, by rw [List.length_map]; exact hz.2.2, repL_strs _⟩)
        · exact o2.elim
      | _ => exact o2.elim
    | _ => exact o1.elim⟩
end
/-- the items as texts -/
def strsOf : List D → Option (List PySem.Str)
  | [] => some []
  | d :: ds => match d, strsOf ds with
    | .str a, some ys => some (a :: ys)
    | _, _ => none
theorem strs_of {K : PySem.W.Frag} {μ : List Addr} {Hf : Hp} : ∀ {ds : List D} {vs : List V} {ys : List PySem.Str}, RepL K μ Hf ds vs → strsOf ds = some ys → vs = ys.map V.str
  | [], vs, ys, r, e => by
    simp only [RepL] at r; simp only [strsOf, Option.some.injEq] at e; subst r e; rfl
  | d :: ds, vs, ys, r, e => by
    simp only [RepL] at r
    obtain ⟨x, xs, rfl, q, rl⟩ := r
    unfold strsOf at e
    cases d <;> first | (cases e; done) | skip
    rename_i a
    cases e2 : strsOf ds with
    | none => rw [e2] at e; cases e
    | some zs =>
      rw [e2] at e
      cases e
      rw [strs_of rl e2]
      obtain rfl : x = .str a := by simpa only [Rep] using q
      rfl
def eJoin (f g : Ev D) : Ev D := fun Γ S => (f Γ S).bind fun x S1 => match x with
  | .str a => (g Γ S1).bind fun y S2 => (match (viewL S2 y).bind strsOf with
    | some ys => if (ys.map (·.length)).sum + ys.length * a.length ≤ 16777216 then .ok (.str (Txt.join a ys)) S2 else .no
    | none => .no)
  | _ => .no
section
variable {X : Cx} {W : WX} {o e : Expr} {fo fe : Ev D} {apos pos : Pos}
theorem de_join (ho : DE X W o fo) (he : DB X W e fe) (hs : starEach [e] X.env = [(false, eval e X.env)] := by rfl)
    (hbase : attributeBase o "join" X.env (eval o X.env) = eval o X.env := by rfl) (hline : (apos.endLine == pos.line) = true := by rfl) : DE X W (.Call (.Attribute o "join" apos) [e] [] pos) (eJoin fo fe) :=
  PE_imp (pe_join ho he hs hbase hline) fun σ H Q ⟨Γ, S, Hf, μ, sl, so, h⟩ => ⟨Γ, S, Hf, μ, sl, so, Out.bind sl rm_rep h fun d S1 v H1 Hf1 μ1 _ s1 sl1 so1 r1 o1 => by
    cases d with
    | str a =>
      obtain rfl : v = .str a := by simpa only [Rep] using r1
      refine ⟨⟨a, rfl⟩, Γ, S1, Hf1, μ1, sl1, so1, Out.bind sl1 rm_rep o1 fun d2 S2 v2 H2 Hf2 μ2 _ s2 sl2 so2 r2 o2 => ?_⟩
      have bx := BorR.bor sl2 r2
      cases e2 : viewL S2 d2 with
      | none => simp only [e2, Option.bind_none] at o2; exact o2.elim
      | some ds =>
        obtain ⟨p, xs, rfl, hq, _, rl⟩ := viewL_ok so2 bx e2
        cases e3 : strsOf ds with
        | none => simp only [e2, Option.bind_some, e3] at o2; exact o2.elim
        | some ys =>
          simp only [e2, Option.bind_some, e3] at o2
          split at o2
          next hz =>
            have := strs_of rl e3
            subst this
            exact ⟨a, p, ys, rfl, rfl, hq, hz, o2 _ H2 Hf2 μ2 (Step.refl _ _ _) so2 (by simp only [Rep])⟩
          · exact o2.elim
    | _ => exact o1.elim⟩
end
/-! ### one sign in a text; data in a tuple -/
def oInS : Op2 := fun _ a b => match a, b with
  | .str x, .str z => (match x.cps.toList with
    | [c] => if x = ⟨#[c]⟩ then some (.bl (decide (c ∈ z.cps.toList))) else none
    | _ => none)
  | _, _ => none
theorem opb_inS {K : PySem.W.Frag} : OpB K (fun x y H Q => ∃ (c : Nat) (z : PySem.Str), x = .str ⟨#[c]⟩ ∧ y = .str z ∧ Q (.bl (decide (c ∈ z.cps.toList))) H) oInS := by
  intro S H Hf μ x y a b d Q so bx by_ e k
  unfold oInS at e
  cases a <;> cases b <;> first | (simp at e; done) | skip
  rename_i p z
  simp only at e
  split at e
  next c hc =>
    split at e
    next h =>
      cases e
      exact ⟨c, z, by rw [bx.str, h], by_.str, k _ H Hf μ (Step.refl _ _ _) so (by simp only [Rep])⟩
    · cases e
  · cases e
section
variable {X : Cx}
def rInT (K : PySem.W.Frag) (neg : Bool) : R2 := fun x y H Q => ∃ d ds, Dp K H x d ∧ Dp K H y (.tuple ds) ∧ SeqAt.shaped d = true ∧ SeqAt.shaped (.tuple ds) = true ∧ Q (.bl (if neg then !ds.any fun z => PyData.eqv z d else ds.any fun z => PyData.eqv z d)) H
theorem op_inT (hu : X.A.units + 65 < cLine) : OpR X (compareOp .In) (rInT X.K false) := fun pins s σ H x y v u Q I rx ry ⟨d, ds, hd, he, sd, se, q⟩ => by
  obtain ⟨as, r1⟩ := Dp.reads I d x v hd rx
  obtain ⟨bs, r2⟩ := Dp.reads I (.tuple ds) y u he ry
  exact SeqAt.in_tuple_reads r2 r1 (SeqAt.canLay_of_shaped se) (SeqAt.canLay_of_shaped sd) (room_in_shaped sd hu) ⟨.bl _, H, I, rfl, q⟩
theorem op_notInT (hu : X.A.units + 65 < cLine) : OpR X (compareOp .NotIn) (rInT X.K true) := fun pins s σ H x y v u Q I rx ry ⟨d, ds, hd, he, sd, se, q⟩ => by
  obtain ⟨as, r1⟩ := Dp.reads I d x v hd rx
  obtain ⟨bs, r2⟩ := Dp.reads I (.tuple ds) y u he ry
  exact SeqAt.notIn_tuple_reads r2 r1 (SeqAt.canLay_of_shaped se) (SeqAt.canLay_of_shaped sd) (room_in_shaped sd hu) ⟨.bl _, H, I, rfl, q⟩
end
def oInT (neg : Bool) : Op2 := fun S a b => match pyS S a, pyS S b with
  | some p, some (.tuple qs) => if SeqAt.shaped p && SeqAt.shaped (.tuple qs) then some (.bl (if neg then !qs.any fun z => PyData.eqv z p else qs.any fun z => PyData.eqv z p)) else none
  | _, _ => none
theorem opb_inT {K : PySem.W.Frag} (neg : Bool) : OpB K (rInT K neg) (oInT neg) := by
  intro S H Hf μ x y a b c Q so bx by_ e k
  unfold oInT at e
  split at e
  next p qs e1 e2 =>
    split at e
    next h =>
      cases e
      rw [Bool.and_eq_true] at h
      exact ⟨p, qs, bor_dp so bx e1, bor_dp so by_ e2, h.1, h.2, k _ H Hf μ (Step.refl _ _ _) so (by simp only [Rep])⟩
    · cases e
  · cases e
/-! ### two lists joined, kept to itself -/
def nCat (f g : Ev D) : Ev SO := fun Γ S => (f Γ S).bind fun x S1 => (g Γ S1).bind fun y S2 => match x, y with
  | .lst xs, .lst ys => if xs.length + ys.length ≤ sizeLine then .ok (.lst (xs ++ ys)) S2 else .no
  | _, _ => .no
section
variable {X : Cx} {W : WX} {a b : Expr} {fa fb : Ev D} {pos : Pos}
theorem dn_cat (ha : DB X W a fa) (hb : DB X W b fb) : DN X W (.BinOp a .Add b pos) (nCat fa fb) :=
  PE_imp (pe_op op_cat ha hb) fun σ H Q ⟨Γ, S, Hf, μ, sl, so, h⟩ => ⟨Γ, S, Hf, μ, sl, so, Out.bind sl rm_new h fun d S1 v H1 Hf1 μ1 _ s1 sl1 so1 r1 o1 => ⟨Γ, S1, Hf1, μ1, sl1, so1, Out.bind sl1 rm_new o1 fun d2 S2 v2 H2 Hf2 μ2 _ s2 sl2 so2 r2 o2 => by
    have b1 : BorR X.K σ Γ H2 H2 Hf2 μ2 d v := by
      rcases r1 with r1 | r1
      · exact .inl (s2.rep r1)
      · exact .inr r1
    have bx := BorR.bor sl2 b1
    have by_ := BorR.bor sl2 r2
    cases d <;> first | exact o2.elim | skip
    cases d2 <;> first | exact o2.elim | skip
    rename_i xs ys
    simp only at o2
    split at o2
    next hz =>
      obtain ⟨p, vs, rfl, hp, _, rl⟩ := bx.lst so2
      obtain ⟨q, us, rfl, hq, _, rl2⟩ := by_.lst so2
      refine ⟨p, q, vs, us, rfl, rfl, hp, hq, by rw [rl.length, rl2.length]; exact hz, fun r hr => ?_⟩
      obtain ⟨st, so3, hf, hm⟩ := Step.layN (u := .lst (vs ++ us)) so2 hr
      exact o2 (.ref r) _ _ μ2 st so3 ⟨r, .lst (vs ++ us), rfl, hr, upd_same, ⟨_, rfl, by rw [List.length_append, rl.length, rl2.length]; exact hz, RepL.append rl rl2⟩, hf, hm⟩
    · exact o2.elim⟩⟩
end
/-! ### d.get(k, x) -/
def isDc : SO → Bool
  | .lst _ => false
  | _ => true
def eDGet2 (i : Nat) (fk fd : Ev D) : Ev D := fun Γ S => match curO Γ S i with
  | some o0 => if isDc o0 then (fk Γ S).bind fun k S1 => (fd Γ S1).bind fun x S2 => (match curO Γ S2 i with
    | some o => (match dAt o k with
      | some r => .ok (r.getD x) S2
      | none => .no)
    | none => .no) else .no
  | none => .no
theorem isD_of {K : PySem.W.Frag} {μ : List Addr} {H Hf : Hp} {o : SO} {u : HO} {p : Addr} (h : isDc o = true) (r : ORep K μ Hf o u) (e : H p = some u) : IsD H p := by
  cases o with
  | lst _ => cases h
  | dT ks => obtain ⟨xs, rfl, _⟩ := r; exact .inr ⟨xs, .inl e⟩
  | dK ks => obtain ⟨xs, rfl, _⟩ := r; exact .inl ⟨xs, .inl e⟩
section
variable {X : Cx} {W : WX} {e f : Expr} {fk fd : Ev D} {x : PySem.Str} {np apos cpos : Pos}
theorem de_dget2 (i : Nat) (hu : X.A.units + 1 < cLine) (he : DE X W e fk) (hf : DE X W f fd) (hN : X.N[i]? = some x := by rfl) (hv : Vis X.env.scope x := by first | exact Or.inl rfl | exact Or.inr (Or.inl rfl) | exact Or.inr (Or.inr rfl))
    (hd : (x == ("__debug__" : PySem.Str)) = false := by decide) (hcd : (x == ("__classdict__" : PySem.Str)) = false := by decide)
    (m : M2 X (.Name x np) "get" apos e f cpos := by exact ⟨rfl, rfl, rfl, rfl⟩) : DE X W (.Call (.Attribute (.Name x np) "get" apos) [e, f] [] cpos) (eDGet2 i fk fd) :=
  PE_imp (pe_dget2 hu (pe_var (i := i) hN hv hd hcd) he hf m) fun σ H Q ⟨Γ, S, Hf, μ, sl, so, o⟩ => by
    unfold eDGet2 at o
    cases e0 : curO Γ S i with
    | none => rw [e0] at o; exact o.elim
    | some o0 =>
      simp only [e0] at o
      split at o
      next hd0 =>
        obtain ⟨p, u, e1, e2, e3⟩ := cur_ok sl so e0
        refine ⟨.ref p, e1, p, rfl, isD_of hd0 e3 e2, Γ, S, Hf, μ, sl, so, Out.bind sl rm_rep o fun k S1 y H1 Hf1 μ1 _ s1 sl1 so1 r1 o1 => ?_⟩
        refine ⟨Γ, S1, Hf1, μ1, sl1, so1, Out.bind sl1 rm_rep o1 fun z S2 w2 H2 Hf2 μ2 _ s2 sl2 so2 r2 o2 => ?_⟩
        cases e4 : curO Γ S2 i with
        | none => simp only [e4] at o2; exact o2.elim
        | some o4 =>
          simp only [e4] at o2
          obtain ⟨p', u', e1', e2', e3'⟩ := cur_ok sl2 so2 e4
          rw [e1] at e1'
          cases e1'
          cases e5 : dAt o4 k with
          | none => simp only [e5] at o2; exact o2.elim
          | some r =>
            simp only [e5] at o2
            obtain ⟨r', g, ⟨h1, h2⟩ | ⟨c', v, h1, h2, h3⟩⟩ := dAt_ok so2 e2' e3' (s2.rep r1) e5
            · subst h1 h2
              exact ⟨none, g, o2 w2 H2 Hf2 μ2 (Step.refl _ _ _) so2 r2⟩
            · subst h1 h2
              exact ⟨some v, g, o2 v H2 Hf2 μ2 (Step.refl _ _ _) so2 h3⟩
      · exact o.elim
end
/-- {} as a value that is only read -/
def eEmp : Ev D := fun _ S => .ok .emp S
theorem de_emp {X : Cx} {W : WX} {pos : Pos} : DE X W (.Dict [] [] pos) eEmp := PE_imp pe_dnewK fun σ H Q ⟨Γ, S, Hf, μ, sl, so, o⟩ p hp => by
  obtain ⟨st, so2⟩ := Step.lay (u := .dK []) so hp
  exact o _ _ _ μ st so2 (by simp only [Rep]; exact ⟨p, rfl, upd_same⟩)
end DL
set_option Elab.async false
set_option linter.all false
set_option maxRecDepth 100000
set_option maxHeartbeats 4000000
/-! DLr: try with several clauses, each with a name. -/
namespace DL
open PySem PySem.Spec PyProof.Rows L2
abbrev ClA := Value × Nat × (Addr → Value → Option Addr → TS)
/-- the ends of a suite whose name's slot is emptied -/
abbrev endsA (i : Nat) (D : Ends) : Ends := { nx := fun σ H => D.nx (σ.set i none) H, rt := D.rt, bk := fun σ H => D.bk (σ.set i none) H, ct := fun σ H => D.ct (σ.set i none) H }
def wManyA (K : PySem.W.Frag) (Wout : WX) (D : Ends) : List ClA → WX
  | [] => Wout
  | q :: r => fun cls d σ H => ∃ b, PySem.W.exmOne K cls q.1 = some b ∧ (b = true → ∀ a, H a = none → q.2.2 a cls d (endsA q.2.1 D) (σ.set q.2.1 (some (.ref a))) H) ∧ (b = false → wManyA K Wout D r cls d σ H)
inductive HdA (X : Cx) : List ExceptHandler → List ClA → Prop
  | nil : HdA X [] []
  | cons {x n : PySem.Str} {c : Value} {i : Nat} {ts : Addr → Value → Option Addr → TS} {b0 : Stmt} {suite : List Stmt} {np pos' : Pos} {hds : List ExceptHandler} {l : List ClA} (hi : X.N[i]? = some n) (hln : X.env.kindOf n = some .local) (hc : Names X x c)
      (hsu : ∀ (a : Addr) (oe : Obj) (cls : Value) (d : Option Addr) (pn : List (Addr × Obj)), Zc cls d oe → (∃ vs, oe.data = .fields vs) → PSs (X.suite a ((a, oe) :: pn)) (b0 :: suite) (ts a cls d)) (r : HdA X hds l) :
      HdA X (.ExceptHandler (some (.Name x np)) (some n) (b0 :: suite) pos' :: hds) ((c, i, ts) :: l)
section
variable {X : Cx} {body : List Stmt} {h0 : ExceptHandler} {hds : List ExceptHandler} {l : List ClA} {pos : Pos} {tb : WX → TS} {Wout : WX}
theorem ps_try_manyA (hs : X.stack = X.env :: X.outer) (hf : X.env.frame = some X.env.locals) (hN : X.N.Nodup) (tk : Takes X Wout)
    (hb : ∀ (W : WX) (pn : List (Addr × Obj)) (xe : Value → Shared → Prop), Takes (X.tr pn xe) W → PassesOwn (model X.prog X.w) X.A X.env xe → PSs (X.tr pn xe) body (tb W))
    (hh : HdA X (h0 :: hds) l) : PS X (.Try body (h0 :: hds) [] [] pos) (fun D σ H => tb (wManyA X.K Wout D l) D σ H) := by
  refine ⟨fun pins s σ H D I q0 => ?_⟩
  have ok := I.ok
  have fr : X.A.frames = some (X.env :: X.outer) := by rw [ok.frames, hs]
  let Ec : Value → Shared → Prop := fun e s₁ => wpAny (model X.prog X.w) X.A (noteFrame e X.env) (fun _ s₂ => wpAny (model X.prog X.w) X.A (setFlight e none) (fun _ s₃ => wpAny (model X.prog X.w) X.A (handleBy e X.env (h0 :: hds)) (SP X pins D) X.xe s₃) X.xe s₂) X.xe s₁
  refine wpAny_Try_except (wpAny_mono ((hb (wManyA X.K Wout D l) (X.pn ++ pins) Ec (fun u z xx => ?_) PassesOwn.looking).run [] s σ H D (I.toTry _) q0) (fun f s1 q1 => ?_) fun e s1 he => he)
  · obtain ⟨a, B, sI, pins', σ', H', cls, d, rfl, J0, nb, up, sky, na, os, ag, wish⟩ := xx
    have J : Inv X pins σ' H' sI := J0.ofTry ok
    have sky1 : Sky B (X.env :: X.outer) a (Zc cls d) X.env.locals z.heap := by rw [← hs]; exact sky
    show wpAny _ _ (noteFrame (.ref a) X.env) _ _ _
    refine Sky.land Zc.steady fr hf sky1 fun h3 fl3 up3 => ?_
    have J3 : Inv X pins σ' H' { z with heap := h3 } := J.landed nb fl3.1 (up.trans up3) os ag
    obtain ⟨oe, vs, g3, z3, d3⟩ := fl3.there
    have offFr : a ∉ frs (X.env :: X.outer) := fun m => by
      obtain ⟨_, o', g', nd⟩ := fl3.2.2.1.mem m
      rw [g3] at g'
      cases g'
      exact nd _ d3
    have offL : a ≠ X.env.locals := fun e => offFr (List.mem_filterMap.mpr ⟨X.env, List.mem_cons_self, by rw [hf, e]⟩)
    have offS : a ∉ X.fs := fun m => by
      obtain ⟨e, he, q⟩ := List.mem_filterMap.mp m
      exact offFr (List.mem_filterMap.mpr ⟨e, List.mem_cons_of_mem _ he, q⟩)
    have S3 := J3.suite g3 d3 na offL offS
    have all : ∀ {hs' : List ExceptHandler} {l' : List ClA}, HdA X hs' l' → wManyA X.K Wout D l' cls d σ' H' → wpAny (model X.prog X.w) X.A (handleBy (.ref a) X.env hs') (SP X pins D) X.xe { z with heap := h3 } := by
      intro hs' l' hk
      induction hk with
      | nil =>
        intro wish
        refine wpAny_handleBy_nil ?_
        obtain ⟨_, _, _, oe', vs', T, oT, ts', he, _, hd, h1, _⟩ := id fl3
        unfold PySem.passOn
        refine wpAny_bind (wpAny_field he hd h1 ?_)
        rw [if_neg (show ¬ ((Value.ref T == Value.none) = true) from by simp)]
        have fin : wpAny (model X.prog X.w) X.A (setFlight (.ref a) X.env.frame) (fun _ s4 => wpAny (model X.prog X.w) X.A (throw (.ref a) : Sem Flow) (SP X pins D) X.xe s4) X.xe { z with heap := h3 } := by
          rw [hf]
          exact HandSPX.setFlight_upZ fl3 fun h4 hh4 up4 => wpAny_throw (tk _ _ ⟨a, B, sI, pins, σ', H', cls, d, rfl, J, nb, (up.trans up3).trans up4, .inr (.inr (by rw [hs]; exact hh4)), na, os, ag, wish⟩)
        first
          | exact wpAny_bind (wpAny_pure (wpAny_bind fin))
          | exact wpAny_bind fin
      | @cons x n c i ts b0 suite np pos' hds2 l2 hi hln hc hsu r ih =>
        intro wish
        obtain ⟨b, hb1, yes, no⟩ := wish
        refine wpAny_handleBy_cons (codeAny_handlers_test ?_) (by intro q; cases q)
        have lk : PySem.W.Looks (model X.prog X.w) h3 (typeOf (.ref a)) cls := fun A Q E s k q => wpAny_typeOf_ref (k _ _ g3) (by rw [z3.1]; exact q)
        have ex := PySem.W.exm_one (M := model X.prog X.w) J3.kIn lk hb1
        have asks : ∀ {Q : Value → Shared → Prop} {E : Value → Shared → Prop}, Q c { z with heap := h3 } → wpAny (model X.prog X.w) (X.A.mark (some (.ref a))) (eval (.Name x np) X.env) Q E { z with heap := h3 } := fun {Q E} q => by
          obtain ⟨hg, hdbg, hm | ⟨hm, hv, hnn⟩⟩ := hc
          · exact ld_glob (X := X.suite a ((a, oe) :: (X.pn ++ pins))) S3 hg hm q hdbg
          · exact ld_blt (X := X.suite a ((a, oe) :: (X.pn ++ pins))) S3 hg hm hv q hnn hdbg
        refine asks (ex.here ?_)
        cases b with
        | false =>
          show wpAny _ X.A (handleBy (.ref a) X.env hds2) _ _ _
          exact ih (no rfl)
        | true =>
          refine codeAny_handlers_suite_as (HandSPX.lands_againZ fl3 fun h4 fl4 up4 => ?_)
          have J4 : Inv X pins σ' H' { z with heap := h4 } := J.landed nb fl4.1 ((up.trans up3).trans up4) os ag
          obtain ⟨oe4, vs4, g4, z4, d4⟩ := fl4.there
          have S4 := J4.suite g4 d4 na offL offS
          refine store_ok (X := X.suite a ((a, oe4) :: (X.pn ++ pins))) (v := .ref a) S4 hN hi (.inl hln) rfl (fun s5 S5 => ?_) (.inr hln)
          refine wpAny_mono ((hsu a oe4 cls d (X.pn ++ pins) z4 ⟨_, d4⟩).run [] s5 _ H' _ S5 (yes rfl a na)) (fun f s6 q6 => ?_) (fun _ _ q => False.elim q)
          have done : ∀ {σ6 : L2.St} {H6 : Hp} {Q : Shared → Prop}, Inv (X.suite a ((a, oe4) :: (X.pn ++ pins))) [] σ6 H6 s6 → (∀ s7, Inv X pins (σ6.set i none) H6 s7 → Q s7) →
              wpAny (model X.prog X.w) X.A (do bindName X.env n .none; unbindBehindTheSuite X.env n pos') (fun _ s7 => Q s7) X.xe s6 := fun {σ6 H6 Q} S6 hq => gone_ok (S6.unsuite ok) hN hi hln hq
          cases f with
          | next =>
            obtain ⟨σ6, H6, S6, q7⟩ := q6
            exact done S6 fun s7 J7 => ⟨_, _, J7, q7⟩
          | brk =>
            obtain ⟨σ6, H6, S6, q7⟩ := q6
            exact done S6 fun s7 J7 => ⟨_, _, J7, q7⟩
          | cont =>
            obtain ⟨σ6, H6, S6, q7⟩ := q6
            exact done S6 fun s7 J7 => ⟨_, _, J7, q7⟩
          | ret u =>
            obtain ⟨v6, σ6, H6, S6, r6, q7⟩ := q6
            exact done S6 fun s7 J7 => ⟨_, _, _, J7, r6, q7⟩
    exact all hh wish
  · cases f with
    | next =>
      obtain ⟨σ', H', J', q⟩ := q1
      exact wpAny_execs_nil ⟨σ', H', J'.ofTry ok, q⟩
    | brk =>
      obtain ⟨σ', H', J', q⟩ := q1
      exact ⟨σ', H', J'.ofTry ok, q⟩
    | cont =>
      obtain ⟨σ', H', J', q⟩ := q1
      exact ⟨σ', H', J'.ofTry ok, q⟩
    | ret u =>
      obtain ⟨v, σ', H', J', r, q⟩ := q1
      exact ⟨v, σ', H', J'.ofTry ok, r, q⟩
end
/-! ### the meaning -/
abbrev Cls := PySem.Str × Nat × (List (PySem.Str × D) → Es)
/-- which class an error of the class a is caught by: told of pairs of unlike classes -/
def apartM (M : List (PySem.Str × PySem.Str)) (a b : PySem.Str) : Bool := M.any fun p => decide (p = (a, b))
def runCl (M : List (PySem.Str × PySem.Str)) (C' : PySem.Str) (fs : List (PySem.Str × D)) (Γ' : Gm) (S' : Store) : List Cls → RS
  | [] => .ex C' fs Γ' S'
  | q :: r => if C' = q.1 then (if q.2.1 < Γ'.length then (match q.2.2 fs (Γ'.set q.2.1 none) S' with
    | .nx Γ2 S2 => .nx (Γ2.set q.2.1 none) S2
    | .rt d S2 => .rt d S2
    | _ => .no) else .no) else if apartM M C' q.1 then runCl M C' fs Γ' S' r else .no
def sTryM (M : List (PySem.Str × PySem.Str)) (fb : Es) (cl : List Cls) : Es := fun Γ S => match fb Γ S with
  | .ex C' fs Γ' S' => runCl M C' fs Γ' S' cl
  | r => r
/-- the facts of the classes -/
def exmB (K : PySem.W.Frag) (M : List (PySem.Str × PySem.Str)) : Bool := M.all fun p => decide (PySem.W.exmOne K (.ref (He.ga K p.1)) (.ref (He.ga K p.2)) = some false)
theorem exm_no {K : PySem.W.Frag} {M : List (PySem.Str × PySem.Str)} (h : exmB K M = true) {a b : PySem.Str} (k : apartM M a b = true) : PySem.W.exmOne K (.ref (He.ga K a)) (.ref (He.ga K b)) = some false := by
  unfold apartM at k
  obtain ⟨p, hp, e⟩ := List.any_eq_true.mp k
  have := of_decide_eq_true e
  subst this
  exact of_decide_eq_true (List.all_eq_true.mp h _ hp)
def clL (K : PySem.W.Frag) (B : Base) : List Cls → List ClA
  | [] => []
  | q :: r => (.ref (He.ga K q.1), q.2.1, fun a cls d E σ H => ∃ dd fs, d = some dd ∧ cls = .ref (He.ga K q.1) ∧ tSu K B a dd fs q.2.1 (q.2.2 fs) E σ H) :: clL K B r
section
variable {X : Cx} {B : Base} {W : WX} {x n : PySem.Str} {i : Nat} {body suite : List Stmt} {b0 : Stmt} {h0 : ExceptHandler} {hds : List ExceptHandler} {np pos pos' : Pos} {fb : Es} {fsu : List (PySem.Str × D) → Es} {cl : List Cls}
/-- the clauses' derivations -/
def DCl (X : Cx) (B : Base) (hds : List ExceptHandler) (cl : List Cls) : Prop := (∀ B' : Base, HdA X hds (clL X.K B' cl)) ∧ ∀ q ∈ cl, PySem.W.exmOne X.K (.ref (He.ga X.K q.1)) (.ref (He.ga X.K q.1)) = some true
theorem dcl_nil : DCl X B [] [] := ⟨fun _ => .nil, fun q h => nomatch h⟩
theorem dcl_cons (hi : X.N[i]? = some n) (hln : X.env.kindOf n = some .local) (hg : Gl X x) (hm : X.mg x = some (.ref (He.ga X.K x))) (hex : PySem.W.exmOne X.K (.ref (He.ga X.K x)) (.ref (He.ga X.K x)) = some true)
    (hsu : ∀ (a dd : Addr) (oe : Obj) (fs : List (PySem.Str × D)) (pn : List (Addr × Obj)) (B' : Base), Zc (.ref (He.ga X.K x)) (some dd) oe → (∃ vs, oe.data = .fields vs) → PSs (X.suite a ((a, oe) :: pn)) (b0 :: suite) (tSu X.K B' a dd fs i (fsu fs)))
    (r : DCl X B hds cl) (hdb : (x == ("__debug__" : PySem.Str)) = false := by decide) :
    DCl X B (.ExceptHandler (some (.Name x np)) (some n) (b0 :: suite) pos' :: hds) ((x, i, fsu) :: cl) := by
  refine ⟨fun B' => .cons hi hln ⟨hg, hdb, .inl hm⟩ (fun a oe cls d pn hz hv => ?_) (r.1 B'), fun q hq => ?_⟩
  · refine ⟨fun pins s σ H E I h => ?_⟩
    obtain ⟨dd, fs, rfl, rfl, h⟩ := h
    exact (hsu a dd oe fs pn _ hz hv).run pins s σ H E I h
  · rcases List.mem_cons.mp hq with e | hq
    · rw [e]; exact hex
    · exact r.2 q hq
theorem many_of {K : PySem.W.Frag} {M : List (PySem.Str × PySem.Str)} {C' : PySem.Str} {fs : List (PySem.Str × D)} {fv : List (PySem.Str × V)} {Γ' : Gm} {S' : Store} {σ' : L2.St} {H' Hf' : Hp} {μ' : List Addr} {dd : Addr} {E : Ends} (hM : exmB K M = true)
    (r' : Rl K B Γ' S' σ' H' Hf' μ') (hd : Hf' dd = some (.xd fv)) (hr : FRep K μ' Hf' fs fv) : ∀ cl : List Cls, (∀ q ∈ cl, PySem.W.exmOne K (.ref (He.ga K q.1)) (.ref (He.ga K q.1)) = some true) → SOut K B W E (runCl M C' fs Γ' S' cl) →
      wManyA K W E (clL K B cl) (.ref (He.ga K C')) (some dd) σ' H'
  | [], _, o => o dd fv σ' H' Hf' μ' r' hd hr
  | q :: cl, hq, o => by
    unfold runCl at o
    split at o
    next e =>
      subst e
      split at o
      next hlt =>
        refine ⟨true, hq q List.mem_cons_self, fun _ a ha => ⟨dd, fs, rfl, rfl, Γ'.set q.2.1 none, S', Hf', μ', fv, SlOk.forget r' q.2.1 _, List.getElem?_set_self (by rw [← r'.sl.len]; exact hlt), hd, hr, ?_⟩, fun z => nomatch z⟩
        cases e2 : q.2.2 fs (Γ'.set q.2.1 none) S' with
        | nx Γ2 S2 =>
          simp only [e2] at o
          exact fun σ2 H2 Hf2 μ2 r2 => o _ _ _ _ (SlOk.forget r2 q.2.1 none)
        | rt d S2 => simp only [e2] at o; exact o
        | bk Γ2 S2 => simp only [e2] at o; exact o.elim
        | ct Γ2 S2 => simp only [e2] at o; exact o.elim
        | ex C2 fs2 Γ2 S2 => simp only [e2] at o; exact o.elim
        | no => simp only [e2] at o; exact o.elim
      · exact o.elim
    next ne =>
      split at o
      next ha => exact ⟨false, exm_no hM ha, fun z => (nomatch z), fun _ => many_of hM r' hd hr cl (fun p hp => hq p (List.mem_cons_of_mem _ hp)) o⟩
      · exact o.elim
theorem ds_tryM {M : List (PySem.Str × PySem.Str)} (hN : X.N.Nodup) (hs : X.stack = X.env :: X.outer) (hf : X.env.frame = some X.env.locals) (tk : Takes X W) (hM : exmB X.K M = true)
    (hb : ∀ (W' : WX) (pn : List (Addr × Obj)) (xe : Value → Shared → Prop), Takes (X.tr pn xe) W' → PassesOwn (model X.prog X.w) X.A X.env xe → DSs (X.tr pn xe) B W' body fb) (hc : DCl X B (h0 :: hds) cl) :
    DS X B W (.Try body (h0 :: hds) [] [] pos) (sTryM M fb cl) := by
  intro fl ml
  refine PS_imp (ps_try_manyA (l := clL X.K (B.at fl ml) cl) (Wout := W) (tb := fun W' => tS X.K (B.at fl ml) W' fb) hs hf hN tk (fun W' pn xe h1 h2 => hb W' pn xe h1 h2 fl ml) (hc.1 _)) fun E σ H ⟨Γ, S, Hf, μ, r, o⟩ => ⟨Γ, S, Hf, μ, r, ?_⟩
  unfold sTryM at o
  cases e : fb Γ S with
  | nx Γ' S' => rw [e] at o; exact o
  | rt d S' => rw [e] at o; exact o
  | bk Γ' S' => rw [e] at o; exact o
  | ct Γ' S' => rw [e] at o; exact o
  | no => rw [e] at o; exact o
  | ex C' fs Γ' S' =>
    simp only [e] at o
    exact fun dd fv σ' H' Hf' μ' r' hd hr => many_of hM r' hd hr cl hc.2 o
end
/-! ### slots are forgotten -/
def killG (Γ : Gm) (is : List Nat) : Gm := is.foldl (fun g i => g.set i none) Γ
def sKill (is : List Nat) : Es := fun Γ S => .nx (killG Γ is) S
section
variable {K : PySem.W.Frag} {B : Base} {Γ : Gm} {S : Store} {σ : L2.St} {H Hf : Hp} {μ : List Addr}
theorem Rl.kill (r : Rl K B Γ S σ H Hf μ) (i : Nat) : Rl K B (Γ.set i none) S σ H Hf μ := by
  by_cases hi : i < σ.length
  · have := SlOk.forget r i σ[i]
    rwa [List.set_getElem_self] at this
  · have := SlOk.forget r i none
    rwa [List.set_eq_of_length_le (l := σ) (by omega)] at this
theorem Rl.kills : ∀ (is : List Nat) {Γ : Gm}, Rl K B Γ S σ H Hf μ → Rl K B (killG Γ is) S σ H Hf μ
  | [], _, r => r
  | i :: is, Γ, r => Rl.kills is (r.kill i)
end
section
variable {X : Cx} {B : Base} {W : WX} {sts : List Stmt} {f : Es}
theorem dss_kill (is : List Nat) (h : DSs X B W sts f) : DSs X B W sts (sSeq (sKill is) f) := fun fl ml => PSs_imp (h fl ml) fun E σ H ⟨Γ, S, Hf, μ, r, o⟩ => ⟨killG Γ is, S, Hf, μ, r.kills is, o⟩
theorem dss_kill0 (is : List Nat) : DSs X B W [] (sKill is) := fun fl ml => PSs_imp pss_nil fun E σ H ⟨Γ, S, Hf, μ, r, o⟩ => o σ H Hf μ (r.kills is)
end
/-! ### -x -/
def eNeg (f : Ev D) : Ev D := fun Γ S => (f Γ S).bind fun d S1 => match d with
  | .int i => .ok (.int (-i)) S1
  | _ => .no
theorem de_neg {X : Cx} {W : WX} {a : Expr} {f : Ev D} {pos : Pos} (h : DE X W a f) : DE X W (.UnaryOp .USub a pos) (eNeg f) :=
  PE_imp (pe_un un_neg h) fun σ H Q ⟨Γ, S, Hf, μ, sl, so, o⟩ => ⟨Γ, S, Hf, μ, sl, so, Out.bind sl rm_rep o fun x S1 v H1 Hf1 μ1 _ s1 sl1 so1 r1 o1 => by
    cases x with
    | int i =>
      obtain rfl : v = .int i := by simpa only [Rep] using r1
      exact ⟨i, rfl, o1 _ H1 Hf1 μ1 (Step.refl _ _ _) so1 (by simp only [Rep])⟩
    | _ => exact o1.elim⟩
/-! ### k in d as a value -/
section
variable {X : Cx} {W : WX} {e : Expr} {fk : Ev D} {x : PySem.Str} {np pos : Pos}
theorem tE_din {K : PySem.W.Frag} (neg : Bool) (i : Nat) {σ : L2.St} {H : Hp} {Q : VK} (q : tE K W (ofB (bDIn neg i fk)) σ H Q) :
    tE K W fk σ H fun y H1 => tVar i σ H1 fun x H2 => ∃ a o, x = .ref a ∧ DGet H2 a y o ∧ Q (.bl (if neg then !o.isSome else o.isSome)) H2 := by
  obtain ⟨Γ, S, Hf, μ, sl, so, o⟩ := q
  unfold ofB bDIn at o
  refine ⟨Γ, S, Hf, μ, sl, so, ?_⟩
  cases e1 : fk Γ S with
  | no => rw [e1] at o; exact o
  | ex C fs S1 => rw [e1] at o; exact o
  | ok k S1 =>
    rw [e1] at o
    intro y H1 Hf1 μ1 s1 so1 r1
    simp only [RE.bind_ok] at o
    have sl1 := sl.step s1
    cases e4 : curO Γ S1 i with
    | none => simp only [e4, RE.bind_no] at o; exact o.elim
    | some o4 =>
      simp only [e4] at o
      obtain ⟨p, u, e1, e2, e3⟩ := cur_ok sl1 so1 e4
      cases e5 : dAt o4 k with
      | none => simp only [e5, RE.bind_no] at o; exact o.elim
      | some r =>
        simp only [e5, RE.bind_ok] at o
        obtain ⟨r', g, h⟩ := dAt_ok so1 e2 e3 r1 e5
        have er : r.isSome = r'.isSome := by
          rcases h with ⟨rfl, rfl⟩ | ⟨c, v, rfl, rfl, _⟩ <;> rfl
        refine ⟨.ref p, e1, p, r', rfl, g, ?_⟩
        rw [er] at o
        exact o _ H1 Hf1 μ1 s1 so1 (by simp only [Rep])
theorem de_din (i : Nat) (hu : X.A.units + 1 < cLine) (he : DE X W e fk) (hN : X.N[i]? = some x := by rfl) (hv : Vis X.env.scope x := by first | exact Or.inl rfl | exact Or.inr (Or.inl rfl) | exact Or.inr (Or.inr rfl))
    (hd : (x == ("__debug__" : PySem.Str)) = false := by decide) (hcd : (x == ("__classdict__" : PySem.Str)) = false := by decide) : DE X W (.Compare e [.In] [.Name x np] pos) (ofB (bDIn false i fk)) :=
  PE_imp (pe_cmp (pc_din hu he (pe_var (i := i) hN hv hd hcd))) fun σ H Q q => tE_din false i q
theorem de_dnin (i : Nat) (hu : X.A.units + 1 < cLine) (he : DE X W e fk) (hN : X.N[i]? = some x := by rfl) (hv : Vis X.env.scope x := by first | exact Or.inl rfl | exact Or.inr (Or.inl rfl) | exact Or.inr (Or.inr rfl))
    (hd : (x == ("__debug__" : PySem.Str)) = false := by decide) (hcd : (x == ("__classdict__" : PySem.Str)) = false := by decide) : DE X W (.Compare e [.NotIn] [.Name x np] pos) (ofB (bDIn true i fk)) :=
  PE_imp (pe_cmp (pc_dnotin hu he (pe_var (i := i) hN hv hd hcd))) fun σ H Q q => tE_din true i q
end
/-! ### all parameters of a def with defaults are written -/
theorem binds_def {K : PySem.W.Frag} {x qual : PySem.Str} {params : Arguments} {body : List Stmt} {scope : Scope} {dvs : List V} {kws : List (PySem.Str × V)} {f : Addr} {fd : FuncData} {ps : List PySem.Str} {n : Nat}
    (F : FunD K x qual params body scope dvs kws f fd) (hd : dvs ≠ []) (hn : n = ps.length)
    (h : ∀ (T : Addr) (kV doc pm : Value) (an : Option Addr) (cdv ct : Value) (us its : List Value), us.length = n → its.length = dvs.length →
      ∃ k, bindArgs (PySem.W.fnOf x qual params body scope (.ref T) kV doc pm an cdv ct) ⟨us, []⟩ = seqItems? (.ref T) >>= k ∧ k (some its.toArray) = pure (ps.zip us)) : L2.Binds K fd ps [] := by
  obtain ⟨ds, h1, h2⟩ := F.binds1 (ps := ps) n dvs.length hd (by omega) fun T kV doc pm an cdv ct us its hl hi => by
    obtain ⟨k, e1, e2⟩ := h T kV doc pm an cdv ct us its hl hi
    exact ⟨k, e1, by rw [e2, List.drop_of_length_le (by omega), List.append_nil]⟩
  rw [List.drop_length] at h1
  cases h1
  exact h2
end DL
set_option Elab.async false
set_option linter.all false
set_option maxRecDepth 100000
set_option maxHeartbeats 4000000
/-! DLt: a body's own list is lent to an expression that reads it. -/
namespace DL
open PySem PySem.Spec PyProof.Rows L2
mutual
def noLst : D → Bool
  | .tup ds => noLstL ds
  | .lst _ => false
  | .kst _ => false
  | _ => true
def noLstL : List D → Bool
  | [] => true
  | d :: ds => noLst d && noLstL ds
end
def noLstO : SO → Bool
  | .lst ds => noLstL ds
  | .dT kvs => kvs.all fun q => noLst q.2
  | .dK kvs => kvs.all fun q => noLst q.2
/-- the frozen heap without p -/
def offF (Hf : Hp) (p : Addr) : Hp := fun a => if a = p then none else Hf a
theorem offF_same {Hf : Hp} {p : Addr} : offF Hf p p = none := if_pos rfl
theorem offF_ne {Hf : Hp} {p a : Addr} (h : a ≠ p) : offF Hf p a = Hf a := if_neg h
section
variable {K : PySem.W.Frag} {μ : List Addr} {Hf : Hp} {p : Addr} {xs : List V}
mutual
theorem Rep.off (hp : Hf p = some (.lst xs)) : ∀ (d : D) (v : V), noLst d = true → Rep K μ Hf d v → Rep K μ (offF Hf p) d v
  | .non, v, _, h => by simpa only [Rep] using h
  | .bl _, v, _, h => by simpa only [Rep] using h
  | .int _, v, _, h => by simpa only [Rep] using h
  | .str _, v, _, h => by simpa only [Rep] using h
  | .raw _, v, _, h => by simpa only [Rep] using h
  | .loc _, v, _, h => by simpa only [Rep] using h
  | .emp, v, _, h => by
    simp only [Rep] at h ⊢
    obtain ⟨a, e, q⟩ := h
    exact ⟨a, e, by rw [offF_ne (fun z => by rw [z, hp] at q; cases q)]; exact q⟩
  | .tup ds, v, n, h => by
    simp only [Rep] at h ⊢
    simp only [noLst] at n
    obtain ⟨a, ys, e, q, z, r⟩ := h
    exact ⟨a, ys, e, by rw [offF_ne (fun z => by rw [z, hp] at q; cases q)]; exact q, z, RepL.off hp ds ys n r⟩
  | .lst _, v, n, _ => by simp only [noLst] at n; cases n
  | .kst _, v, n, _ => by simp only [noLst] at n; cases n
theorem RepL.off (hp : Hf p = some (.lst xs)) : ∀ (ds : List D) (vs : List V), noLstL ds = true → RepL K μ Hf ds vs → RepL K μ (offF Hf p) ds vs
  | [], vs, _, h => by simpa only [RepL] using h
  | d :: ds, vs, n, h => by
    simp only [RepL] at h ⊢
    simp only [noLstL, Bool.and_eq_true] at n
    obtain ⟨x, r, e, q, k⟩ := h
    exact ⟨x, r, e, Rep.off hp d x n.1 q, RepL.off hp ds r n.2 k⟩
end
theorem KRep.off {κ : Type} (hp : Hf p = some (.lst xs)) : ∀ {ks : List (κ × D)} {ys : List (κ × V)}, (ks.all fun q => noLst q.2) = true → KRep K μ Hf ks ys → KRep K μ (offF Hf p) ks ys
  | [], ys, _, h => h
  | (k, d) :: ks, ys, n, h => by
    rw [List.all_cons, Bool.and_eq_true] at n
    obtain ⟨x, r, e, q, h⟩ := h
    exact ⟨x, r, e, Rep.off hp d x n.1 q, KRep.off hp n.2 h⟩
theorem ORep.off (hp : Hf p = some (.lst xs)) : ∀ {o : SO} {u : HO}, noLstO o = true → ORep K μ Hf o u → ORep K μ (offF Hf p) o u
  | .lst ds, u, n, h => by
    obtain ⟨ys, e, z, q⟩ := h
    exact ⟨ys, e, z, RepL.off hp ds ys n q⟩
  | .dT ks, u, n, h => by
    obtain ⟨ys, e, q⟩ := h
    exact ⟨ys, e, KRep.off hp n q⟩
  | .dK ks, u, n, h => by
    obtain ⟨ys, e, q⟩ := h
    exact ⟨ys, e, KRep.off hp n q⟩
end
def eLend (i : Nat) (f : Ev D) : Ev D := fun Γ S => match Γ[i]? with
  | some (some (.own (.lst ds))) => match f (Γ.set i (some (.val (.lst ds)))) S with
    | .ok d S' => if noLst d && S'.all noLstO then .ok d S' else .no
    | _ => .no
  | _ => .no
theorem tE_lend {K : PySem.W.Frag} {W W' : WX} {f : Ev D} {i : Nat} {σ : L2.St} {H : Hp} {Q : VK} (q : tE K W (eLend i f) σ H Q) : tE K W' f σ H Q := by
  obtain ⟨Γ, S, Hf, μ, sl, so, o⟩ := q
  unfold eLend at o
  cases e : Γ[i]? with
  | none => rw [e] at o; exact o.elim
  | some x =>
    cases x with
    | none => rw [e] at o; exact o.elim
    | some x =>
      cases x with
      | val d => rw [e] at o; exact o.elim
      | own c =>
        cases c with
        | lst ds =>
          simp only [e] at o
          obtain ⟨p, u, s1, hp, ⟨xs, rfl, hz, rl⟩, hf, hm⟩ := sl.own i _ e
          obtain ⟨sb, so2⟩ := Step.frz so hp hf hm
          have rv : Rep K μ (upd Hf p (.lst xs)) (.lst ds) (.ref p) := by
            simp only [Rep]
            exact ⟨p, xs, rfl, upd_same, hz, RepL.mono sb (Pre.refl _) _ _ rl⟩
          have nf : ∀ {j : Nat} {c : SO}, (Γ.set i (some (.val (.lst ds))))[j]? = some (some (.own c)) → i ≠ j ∧ Γ[j]? = some (some (.own c)) := fun {j c} e2 => by
            by_cases hj : i = j
            · subst hj
              have hl : i < Γ.length := (List.getElem?_eq_some_iff.mp e).1
              rw [List.getElem?_set_self hl] at e2
              cases e2
            · rw [List.getElem?_set_ne hj] at e2
              exact ⟨hj, e2⟩
          have sl2 : SlOk K (Γ.set i (some (.val (.lst ds)))) σ H (upd Hf p (.lst xs)) μ := by
            refine ⟨by rw [List.length_set]; exact sl.len, fun j d e2 => ?_, fun j c e2 => ?_, fun j k c c' q e2 e3 s2 s3 => ?_⟩
            · by_cases hj : i = j
              · subst hj
                have hl : i < Γ.length := (List.getElem?_eq_some_iff.mp e).1
                rw [List.getElem?_set_self hl] at e2
                cases e2
                exact ⟨.ref p, s1, rv⟩
              · rw [List.getElem?_set_ne hj] at e2
                obtain ⟨v, h1, h2⟩ := sl.val j d e2
                exact ⟨v, h1, Rep.mono sb (Pre.refl _) _ _ h2⟩
            · obtain ⟨hj, e2⟩ := nf e2
              obtain ⟨q, w, s2, h1, h2, h3, h4⟩ := sl.own j c e2
              have hqp : q ≠ p := fun z => hj (sl.apart i j _ c p e e2 s1 (z ▸ s2))
              exact ⟨q, w, s2, h1, h2.mono sb (Pre.refl _), by rw [upd_ne hqp]; exact h3, h4⟩
            · exact sl.apart j k c c' q (nf e2).2 (nf e3).2 s2 s3
          refine ⟨_, S, _, μ, sl2, so2, ?_⟩
          cases ef : f (Γ.set i (some (.val (.lst ds)))) S with
          | no => simp only [ef] at o; exact o.elim
          | ex C fs S1 => simp only [ef] at o; exact o.elim
          | ok d S1 =>
            simp only [ef] at o
            split at o
            next hn =>
              rw [Bool.and_eq_true] at hn
              intro v H1 Hf1 μ1 st so1 re
              have hp1 : Hf1 p = some (.lst xs) := st.fz _ _ upd_same
              refine o v H1 (offF Hf1 p) μ1 ⟨st.fr, fun a u h => ?_, fun a h1 h2 => ?_, st.mu, st.nm, st.th⟩ ⟨fun a u h => ?_, so1.len, so1.nd, fun n c a h1 h2 => ?_, fun a m => ?_⟩ (Rep.off hp1 d v hn.1 re)
              · have hap : a ≠ p := fun z => by rw [z, hf] at h; cases h
                rw [offF_ne hap]
                exact st.fz _ _ (by rw [upd_ne hap]; exact h)
              · by_cases hap : a = p
                · subst hap; exact offF_same
                · rw [offF_ne hap]
                  exact st.nf a (by rw [upd_ne hap]; exact h1) h2
              · by_cases hap : a = p
                · subst hap; rw [offF_same] at h; cases h
                · rw [offF_ne hap] at h
                  exact so1.sub a u h
              · obtain ⟨w, h3, h4⟩ := so1.ob n c a h1 h2
                exact ⟨w, h3, h4.off hp1 (List.all_eq_true.mp hn.2 c (List.mem_of_getElem? h1))⟩
              · by_cases hap : a = p
                · subst hap; exact offF_same
                · rw [offF_ne hap]; exact so1.fz a m
            · exact o.elim
        | _ => simp only [e] at o; exact o.elim
theorem de_lend {X : Cx} {W : WX} {e : Expr} {f : Ev D} (i : Nat) (h : DE X W e f) : DE X W e (eLend i f) := PE_imp h fun σ H Q q => tE_lend q
end DL
set_option Elab.async false
set_option linter.all false
set_option maxRecDepth 100000
set_option maxHeartbeats 4000000
/-! DLo: a law's end for defs that may show things; the Hook. -/
namespace DL
open PySem PySem.Spec PyProof.Rows L2

/-- the promise of the law's def at the heap behind the top -/
theorem law_callG {P : Program} {w : World} {K : PySem.W.Frag} {mg mb : PySem.Str → Option Value} {k : Nat} {fa a : Addr} {fd : FuncData} {x : PySem.Str} {sp : Sp} {t : Shared} {us : List Value} {ns : List Int}
    (KT : K.In t.heap) (nG : t.heap.Ns mainGlobals mg) (nB : t.heap.Ns builtinsNs mb) (eB : ∀ y : PySem.Str, y ≠ "__name__" → mb y = bootBuiltins y) (nl : t.heap.NoLimit) (g0 : t.gens = #[])
    (hL : t.heap.get? a = some { cls := .type "list", data := .seq us.toArray }) (hI : IntsAre us ns) (hz : ns.length ≤ sizeLine) (rm : Room k callerA)
    (F : ∀ base : Heap, K.In base → base.Ns mainGlobals mg → FnG P w K mg base k fa fd [x] sp) (bd : ∀ (s : Shared) (u : Value), BindsTo s fd ⟨[u], []⟩ [(x, u)])
    (go : ∀ H : Hp, Only H → SqL K H a (ns.map V.int) → sp [.ref a] H (fun v _ => v = .bl true) fun _ _ _ => False) :
    codeAny (model P w) callerA (.call (.ref fa) ⟨[.ref a], []⟩) (fun r z => r = .ok (.ret (.bool true)) ∧ OldK t.heap z.heap ∧ z.os = t.os ∧ AllBare z.gens) t := by
  have vv := vals_ints hI
  have key : ∀ H : Hp, Only H → SqL K H a (ns.map V.int) → HOk P w H t.heap → (∀ b, H b ≠ none → b = a) → (H a ≠ none → K.lookup a = none) →
      codeAny (model P w) callerA (.call (.ref fa) ⟨[.ref a], []⟩) (fun r z => r = .ok (.ret (.bool true)) ∧ OldK t.heap z.heap ∧ z.os = t.os ∧ AllBare z.gens) t := fun H on sq ok only apart => by
    have free_of : ∀ {b : Addr} {o : Obj} {es : Array DictEntry} {n : Nat}, t.heap.get? b = some o → o.data = .dict es n → H b = none := fun {b o es n} e1 e2 => Classical.byContradiction fun z => by
      have eb := only b z
      rw [eb, hL] at e1
      cases e1
      cases (show Data.seq us.toArray _ = Data.dict es n from e2)
    have hidNs : ∀ {b : Addr} {m : PySem.Str → Option Value}, t.heap.Ns b m → (hidT t.heap H).Ns b m := fun ⟨o, es, n, e1, e2, r⟩ => ⟨o, es, n, hidT_get e1 (free_of e1 e2), e2, r⟩
    have hidK : K.In (hidT t.heap H) := fun b o e => hidT_get (KT b o e) (Classical.byContradiction fun z => by
      have eb := only b z
      rw [eb] at e z
      rw [apart z] at e
      cases e)
    obtain ⟨mc, n1, n2⟩ := nl
    have md : Mod K mg (hidT t.heap H) := ⟨hidK, hidNs nG, ⟨mb, hidNs nB, eB⟩, ⟨mc, hidNs n1, n2⟩⟩
    have ev : Env0 P w K mg (hidT t.heap H) callerA [] t H := ⟨rfl, md, fun _ _ e => of_hidT e, Nat.le_of_eq (hidT_size _ _), trivial, fun b hb => absurd (show b ∈ ([] : List Addr) from hb) (by simp), ok, .of_eq g0⟩
    refine codeAny_mono ((F _ hidK (hidNs nG)).run callerA [] t H ⟨[.ref a], []⟩ [.ref a] [.ref a] _ _ rm rfl ev (bd t (.ref a)) (.cons rfl .nil) (go H on sq)) fun r z hr => ?_
    match r, hr with
    | .error e, ⟨_, _, _, _, _, _, _, _, _, _, _, _, no⟩ => exact no.elim
    | .ok .next, hr => exact False.elim hr
    | .ok .brk, hr => exact False.elim hr
    | .ok .cont, hr => exact False.elim hr
    | .ok (.ret u), hr =>
      obtain ⟨v, H2, os, bare, un, ok2, rv, q⟩ := hr
      have q : v = .bl true := q
      rw [q] at rv
      have eu : u = Value.bool true := rv
      refine ⟨by rw [eu], OldK.of_keep fun b o e => ?_, os, bare⟩
      cases hb : H b with
      | none => exact un.keep b o e hb (by intro m; exact absurd (show b ∈ ([] : List Addr) from m) (by simp)) (by simp)
      | some y =>
        rcases on b with n | ⟨ob, xs, fr⟩
        · rw [hb] at n; cases n
        · obtain ⟨f1, _⟩ := ok b _ fr
          obtain ⟨f2, _⟩ := ok2 b _ (un.frzs b ob _ fr)
          rw [e] at f1
          cases f1
          exact f2
  by_cases inK : ∃ o, K.lookup a = some o
  · obtain ⟨o, hk⟩ := inK
    have e := KT a o hk
    rw [hL] at e
    cases e
    exact key (fun _ => none) (fun _ => .inl rfl) (.inr ⟨_, us.toArray, _, hk, rfl, rfl, rfl, by rw [List.size_toArray, hI.length]; exact hz, by simpa using vv⟩) (fun b u z => nomatch (show (none : Option HO) = some u from z)) (fun b z => absurd rfl z) fun z => absurd rfl z
  · have hk : K.lookup a = none := Option.eq_none_iff_forall_ne_some.mpr fun o z => inK ⟨o, z⟩
    let G : Hp := fun b => if b = a then some (.frz { cls := .type "list", data := .seq us.toArray } (.lst (ns.map V.int))) else none
    have Ga : G a = some (.frz { cls := .type "list", data := .seq us.toArray } (.lst (ns.map V.int))) := if_pos rfl
    have Gn : ∀ {b : Addr}, b ≠ a → G b = none := fun h => if_neg h
    refine key G (fun b => ?_) (.inl (.inr ⟨_, Ga⟩)) (fun b u z => ?_) (fun b z => Classical.byContradiction fun n => z (Gn n)) fun _ => hk
    · by_cases e : b = a
      · exact .inr ⟨_, _, by rw [e]; exact Ga⟩
      · exact .inl (Gn e)
    · by_cases e : b = a
      · subst e
        rw [Ga] at z
        cases z
        exact ⟨hL, by rw [List.length_map]; exact hz, us, _, vv, hL⟩
      · rw [Gn e] at z
        cases z

/-- the Hook: the facts, and one Bool more -/
def hookG (n : Nat) (fa : List He.Fa) (fn : List He.DefD) (ex : PySem.W.Frag → Bool) : PySem.W.Hook where
  α := He.AlD × Bool
  obs := fun s => (He.obsD fa fn (He.frG s.heap.get? (sysModules :: He.asD s.heap.get? n)), ex (He.frG s.heap.get? (sysModules :: He.asD s.heap.get? n)))
  val := fun _ => (He.valD fn, true)
  says := fun _ h => ∃ K : PySem.W.Frag, K.In h ∧ He.SaysD fa fn K ∧ ex K = true
  of := fun _ _ e => ⟨_, He.frG_in, congrArg Prod.fst e, congrArg Prod.snd e⟩
  keeps := fun _ _ _ ⟨K, hK, c⟩ k => ⟨K, PySem.W.Frag.In.keeps hK k, c⟩
def obG (n : Nat) (fa : List He.Fa) (fn : List He.DefD) (ex : PySem.W.Frag → Bool) (g : Addr → Option Obj) : He.AlD × Bool := (He.obsD fa fn (He.frG g (sysModules :: He.asD g n)), ex (He.frG g (sysModules :: He.asD g n)))
theorem obG_eq {n : Nat} {fa : List He.Fa} {fn : List He.DefD} {ex : PySem.W.Frag → Bool} {g : Addr → Option Obj} {s : Shared} (h : ∀ a, g a = s.heap.get? a) : obG n fa fn ex g = (hookG n fa fn ex).obs s := by
  have e : g = s.heap.get? := funext h
  subst e
  rfl

/-- a law whose def is told by F, which answers True of every list of ints of the wish -/
theorem walk_G {l : PySem.W.OpenLaw} {n k : Nat} {q : Program} {loose : List PySem.Str} {XP : (PySem.Str → Option Value) → Heap → Prop} {fa : List He.Fa} {fn : List He.DefD} {ex : PySem.W.Frag → Bool} {d : DefRec} {F : Fn} {dd : He.DefD}
    (hn : l.most = some n) (hn2 : n ≤ sizeLine) (hdf : d.params.defaults = []) (hr : Room k callerA) (hname : d.name = dd.name)
    (hb : BindsP dd ["script"])
    (ok : ∀ (w : World) (K : PySem.W.Frag) (mg : PySem.Str → Option Value) (base : Heap), Cn fa fn ex K mg base → OkD l.prog w K mg base dd ["script"] k F)
    (law : ∀ ns : List Int, ns.length ≤ n → ∃ S, F [.kst (ns.map .int)] [] = .ok (.bl true) S) :
    PySem.W.WalkO q loose XP (hookG 4 fa fn ex).says l.row.toRowW d [] (fun f vs => PySem.call f vs) := by
  refine Att.attach_call hn hdf fun w s0 s1 mg mb f o pm cd doc a vs ns G Y ho hd hcd hmg hobj hints hlen hg => ?_
  obtain ⟨K, KX, c, hex⟩ := Y
  rw [hname] at hmg
  have okd := fun base h1 h2 => ok w K mg base ⟨c, h1, h2, hex⟩
  obtain ⟨f0, fd, e0, F0, G0⟩ := okd s1.heap KX G.T.g
  rw [hmg] at e0
  cases e0
  have B0 := FunD.bindsA (ps := ["script"]) F0 hb
  refine law_callG (sp := spD K 1 F) (x := "script") KX G.T.g G.T.b G.T.builtins G.T.nolimit hg hobj hints (Nat.le_trans hlen hn2) hr (fun base h1 h2 => ?_) (fun s v => B0 s [v] rfl) fun H on sq => ?_
  · obtain ⟨f1, fd1, e1, F1, G1⟩ := okd base h1 h2
    rw [hmg] at e1
    cases e1
    obtain ⟨oc, od, dV, kV, dc, pm1, an, cdv, ct, osl, rfl, lk, _⟩ := F0.ex
    obtain ⟨oc2, od2, dV2, kV2, dc2, pm2, an2, cdv2, ct2, osl2, rfl, lk2, _⟩ := F1.ex
    rw [lk] at lk2
    have z := Option.some.inj lk2
    injection z with z1 z2 z3 z4
    injection z3 with z5
    rw [z5]
    exact G1
  · obtain ⟨S, hS⟩ := law ns hlen
    refine ⟨rfl, [.kst (ns.map .int)], [], H, [], RepL.cons ?_ RepL.nil, ⟨Sub.refl _, rfl, List.nodup_nil, fun n o a e1 e2 => (by cases e1), fun a m => (by cases m)⟩, ?_⟩
    · simp only [Rep]
      refine ⟨a, ns.map V.int, rfl, sq, by rw [List.length_map]; exact Nat.le_trans hlen hn2, ?_⟩
      clear hS sq hlen hints
      induction ns with
      | nil => exact RepL.nil
      | cons i ns ih => exact RepL.cons (by simp only [Rep]) ih
    · rw [hS]
      intro v H' Hf' μ' _ _ r
      simpa only [Rep] using r
end DL
set_option Elab.async false
set_option linter.all false
set_option maxRecDepth 100000
/-! DLs: how the meanings compute. -/
namespace DL
open PySem PySem.Spec PyProof.Rows L2
section
variable (Γ : Gm) (S : Store)
@[simp] theorem c_ini0 (n : Nat) : ini n [] = List.replicate n none := by simp [ini]
@[simp] theorem c_ini (n : Nat) (d : D) (ds : List D) : ini (n + 1) (d :: ds) = some (.val d) :: ini n ds := by simp [ini]
@[simp] theorem c_eC (d : D) : eC d Γ S = .ok d S := rfl
@[simp] theorem c_eTy (k : Kd) : eTy k Γ S = .ok (.raw (.ty k.name)) S := rfl
@[simp] theorem c_eV (i : Nat) : eV i Γ S = (match Γ[i]? with | some (some (.val d)) => .ok d S | _ => .no) := rfl
@[simp] theorem c_eVb (i : Nat) : eVb i Γ S = (match Γ[i]? with | some (some (.val d)) => .ok d S | some (some (.own (.lst ds))) => .ok (.lst ds) S | _ => .no) := rfl
@[simp] theorem c_eBin2 (op : Op2) (a b : Ev D) : eBin2 op a b Γ S = (a Γ S).bind fun x S1 => (b Γ S1).bind fun y S2 => match op S2 x y with | some z => .ok z S2 | none => .no := rfl
@[simp] theorem c_eNot (f : Ev D) : eNot f Γ S = (f Γ S).bind fun d S' => match d with | .bl b => .ok (.bl (!b)) S' | _ => .no := rfl
@[simp] theorem c_eAnd (f g : Ev D) : eAnd f g Γ S = (f Γ S).bind fun x S' => match x with | .bl true => g Γ S' | .bl false => .ok (.bl false) S' | _ => .no := rfl
@[simp] theorem c_eOr (f g : Ev D) : eOr f g Γ S = (f Γ S).bind fun x S' => match x with | .bl true => .ok (.bl true) S' | .bl false => g Γ S' | _ => .no := rfl
@[simp] theorem c_eIf (c : Ev Bool) (f g : Ev D) : eIf c f g Γ S = (c Γ S).bind fun b S' => if b then f Γ S' else g Γ S' := rfl
@[simp] theorem c_toB (f : Ev D) : toB f Γ S = (f Γ S).bind fun d S' => match d with | .bl b => .ok b S' | _ => .no := rfl
@[simp] theorem c_ofB (f : Ev Bool) : ofB f Γ S = (f Γ S).bind fun b S' => .ok (.bl b) S' := rfl
@[simp] theorem c_bNot (t : Ev Bool) : bNot t Γ S = (t Γ S).bind fun b S' => .ok (!b) S' := rfl
@[simp] theorem c_bAnd (t u : Ev Bool) : bAnd t u Γ S = (t Γ S).bind fun b S' => if b then u Γ S' else .ok false S' := rfl
@[simp] theorem c_bOr (t u : Ev Bool) : bOr t u Γ S = (t Γ S).bind fun b S' => if b then .ok true S' else u Γ S' := rfl
@[simp] theorem c_bCh (op op' : Op2) (fa fb fc : Ev D) : bCh op op' fa fb fc Γ S = (fa Γ S).bind fun x S1 => (fb Γ S1).bind fun y S2 => match op S2 x y with
  | some (.bl true) => (fc Γ S2).bind fun z S3 => (match op' S3 y z with
    | some (.bl b) => .ok b S3
    | _ => .no)
  | some (.bl false) => .ok false S2
  | _ => .no := rfl
@[simp] theorem c_aNil : aNil Γ S = .ok [] S := rfl
@[simp] theorem c_aCons (f : Ev D) (g : Ev (List D)) : aCons f g Γ S = (f Γ S).bind fun d S1 => (g Γ S1).bind fun ds S2 => .ok (d :: ds) S2 := rfl
@[simp] theorem c_eTup (g : Ev (List D)) : eTup g Γ S = (g Γ S).bind fun ds S1 => if ds.length ≤ sizeLine then .ok (.tup ds) S1 else .no := rfl
@[simp] theorem c_nLst (g : Ev (List D)) : nLst g Γ S = (g Γ S).bind fun ds S1 => if ds.length ≤ sizeLine then .ok (.lst ds) S1 else .no := rfl
@[simp] theorem c_eFrz (f : Ev SO) : eFrz f Γ S = (f Γ S).bind fun o S1 => match o with | .lst ds => .ok (.lst ds) S1 | _ => .no := rfl
@[simp] theorem c_ePb (f : Ev SO) : ePb f Γ S = (f Γ S).bind fun o S1 => .ok (.loc S1.length) (S1 ++ [o]) := rfl
@[simp] theorem c_eFn (op : OpN) (g : Ev (List D)) : eFn op g Γ S = (g Γ S).bind fun ds S1 => match op S1 ds with | some z => .ok z S1 | none => .no := rfl
@[simp] theorem c_nFn (op : Store → List D → Option SO) (g : Ev (List D)) : nFn op g Γ S = (g Γ S).bind fun ds S1 => match op S1 ds with | some z => .ok z S1 | none => .no := rfl
@[simp] theorem c_eCall (F : Fn) (g : Ev (List D)) : eCall F g Γ S = (g Γ S).bind fun ds S1 => F ds S1 := rfl
@[simp] theorem c_eCallK (F : Fn) (is : List Nat) (g : Ev (List D)) : eCallK F is g Γ S = (g Γ S).bind fun ds S1 => F (perm is ds) S1 := rfl
@[simp] theorem c_pNo : pNo Γ S = .ok none S := rfl
@[simp] theorem c_pAt (f : Ev D) : pAt f Γ S = (f Γ S).bind fun d S1 => match d with | .int i => .ok (some i) S1 | _ => .no := rfl
@[simp] theorem c_eSl (f : Ev D) (lo hi : Ev (Option Int)) : eSl f lo hi Γ S = (f Γ S).bind fun d S1 => (lo Γ S1).bind fun l S2 => (hi Γ S2).bind fun u S3 => match slD S3 d l u with | some z => .ok z S3 | none => .no := rfl
@[simp] theorem c_nSl (f : Ev D) (lo hi : Ev (Option Int)) : nSl f lo hi Γ S = (f Γ S).bind fun d S1 => (lo Γ S1).bind fun l S2 => (hi Γ S2).bind fun u S3 => match viewLs S3 d with | some ds => .ok (.lst (cutD ds l u)) S3 | none => .no := rfl
@[simp] theorem c_nSS (d : Nat) (B : Int) (f : Ev D) : nSS d B f Γ S = (f Γ S).bind fun x S1 => match (viewLs S1 x).bind tupsOf with | some l => (if ssOk d B l then .ok (.lst ((sortS l).map tupI)) S1 else .no) | none => .no := rfl
@[simp] theorem c_nRg1 (f : Ev D) : nRg1 f Γ S = (f Γ S).bind fun x S1 => match x with | .int n => (if rgOk 0 n then .ok (.lst (rngD 0 n.toNat)) S1 else .no) | _ => .no := rfl
@[simp] theorem c_nRg2 (f g : Ev D) : nRg2 f g Γ S = (f Γ S).bind fun x S1 => (g Γ S1).bind fun y S2 => match x, y with | .int m, .int n => (if rgOk m n then .ok (.lst (rngD m (n - m).toNat)) S2 else .no) | _, _ => .no := rfl
@[simp] theorem c_eMt (op : Op2) (f g : Ev D) : eMt op f g Γ S = (f Γ S).bind fun a S1 => if isLs S1 a then (g Γ S1).bind fun b S2 => (match op S2 a b with | some z => .ok z S2 | none => .no) else .no := rfl
@[simp] theorem c_eLs (g : Ev (List D)) : eLs g Γ S = (g Γ S).bind fun ds S1 => if ds.length ≤ sizeLine then .ok (.lst ds) S1 else .no := rfl
@[simp] theorem c_eFld (f : PySem.Str) (fs : List (PySem.Str × D)) : eFld f fs Γ S = (match fs.lookup f with | some d => .ok d S | none => .no) := rfl
@[simp] theorem c_eDGet (i : Nat) (f : Ev D) : eDGet i f Γ S = (match curO Γ S i with
  | some _ => (f Γ S).bind fun k S1 => (match curO Γ S1 i with
    | some o => (match dAt o k with
      | some (some c) => .ok c S1
      | _ => .no)
    | none => .no)
  | none => .no) := rfl
@[simp] theorem c_bDIn (neg : Bool) (i : Nat) (f : Ev D) : bDIn neg i f Γ S = (f Γ S).bind fun k S1 => match curO Γ S1 i with
  | some o => (match dAt o k with
    | some r => .ok (if neg then !r.isSome else r.isSome) S1
    | _ => .no)
  | none => .no := rfl
@[simp] theorem c_eDLen (i : Nat) : eDLen i Γ S = (match curO Γ S i with | some (.dT kvs) => .ok (.int (kvs.length : Nat)) S | _ => .no) := rfl
@[simp] theorem c_nDT : nDT Γ S = .ok (.dT []) S := rfl
@[simp] theorem c_nDK : nDK Γ S = .ok (.dK []) S := rfl
@[simp] theorem c_nLc (it : Ev (List D)) (vs : List Nat) (t : Tgt) (c : Ev Bool) (f : Ev D) : nLc it vs t c f Γ S = (it Γ S).bind fun ds S1 => if ds.length ≤ sizeLine then (lcL t c f (wipeG Γ vs) ds S1).bind fun xs S2 => .ok (.lst xs) S2 else .no := rfl
@[simp] theorem c_bYes : bYes Γ S = .ok true S := rfl
@[simp] theorem c_iSeq (f : Ev D) : iSeq f Γ S = (f Γ S).bind fun d S' => match d with | .lst ds => .ok ds S' | .kst ds => .ok ds S' | .tup ds => .ok ds S' | _ => .no := by
  unfold iSeq
  congr 1
@[simp] theorem c_iVia (f : List D → Option (List D)) (g : Ev (List D)) : iVia f g Γ S = (g Γ S).bind fun ds S' => match f ds with | some zs => .ok zs S' | none => .no := rfl
@[simp] theorem c_eSplit (f g : Ev D) : eSplit f g Γ S = (f Γ S).bind fun x S1 => match x with
  | .str a => (g Γ S1).bind fun y S2 => (match y with
    | .str b => if (b.length == 0) = false ∧ a.length + 2 ≤ sizeLine ∧ (Txt.split a b).length ≤ sizeLine then .ok (.lst ((Txt.split a b).map .str)) S2 else .no
    | _ => .no)
  | _ => .no := rfl
@[simp] theorem c_eJoin (f g : Ev D) : eJoin f g Γ S = (f Γ S).bind fun x S1 => match x with
  | .str a => (g Γ S1).bind fun y S2 => (match (viewL S2 y).bind strsOf with
    | some ys => if (ys.map (·.length)).sum + ys.length * a.length ≤ 16777216 then .ok (.str (Txt.join a ys)) S2 else .no
    | none => .no)
  | _ => .no := rfl
@[simp] theorem c_eNeg (f : Ev D) : eNeg f Γ S = (f Γ S).bind fun d S1 => match d with
  | .int i => .ok (.int (-i)) S1
  | _ => .no := rfl
@[simp] theorem c_eLend (i : Nat) (f : Ev D) : eLend i f Γ S = (match Γ[i]? with
  | some (some (.own (.lst ds))) => match f (Γ.set i (some (.val (.lst ds)))) S with
    | .ok d S' => if noLst d && S'.all noLstO then .ok d S' else .no
    | _ => .no
  | _ => .no) := rfl
@[simp] theorem c_eEmp : eEmp Γ S = .ok .emp S := rfl
@[simp] theorem c_nCat (f g : Ev D) : nCat f g Γ S = (f Γ S).bind fun x S1 => (g Γ S1).bind fun y S2 => match x, y with
  | .lst xs, .lst ys => if xs.length + ys.length ≤ sizeLine then .ok (.lst (xs ++ ys)) S2 else .no
  | _, _ => .no := rfl
@[simp] theorem c_eDGet2 (i : Nat) (fk fd : Ev D) : eDGet2 i fk fd Γ S = (match curO Γ S i with
  | some o0 => if isDc o0 then (fk Γ S).bind fun k S1 => (fd Γ S1).bind fun x S2 => (match curO Γ S2 i with
    | some o => (match dAt o k with
      | some r => .ok (r.getD x) S2
      | none => .no)
    | none => .no) else .no
  | none => .no) := rfl
@[simp] theorem c_iStr (f : Ev D) : DL.iStr f Γ S = (f Γ S).bind fun d S' => match d with
  | .str z => .ok (z.cps.toList.map fun c => .str ⟨#[c]⟩) S'
  | _ => .no := rfl
@[simp] theorem c_sRaise1 (C f1 : PySem.Str) (g : Ev (List D)) : sRaise1 C f1 g Γ S = bindS Γ (g Γ S) fun ds S1 => match ds with | [a] => .ex C [(f1, a)] Γ S1 | _ => .no := rfl
@[simp] theorem o_strI (i : Int) : bStr S [.int i] = if i.natAbs.log2 < 1920 then some (.str (toString i)) else none := rfl
@[simp] theorem o_intSI (i : Int) : bIntS S [.int i] = some (.int i) := rfl
@[simp] theorem o_intSB (b : Bool) : bIntS S [.bl b] = some (.int (if b then 1 else 0)) := rfl
@[simp] theorem o_intSS (a : PySem.Str) : bIntS S [.str a] = if a.length ≤ 640 then (PySem.intText? a).map .int else none := rfl
@[simp] theorem o_addS (i j : PySem.Str) : oAdd S (.str i) (.str j) = if i.length + j.length ≤ sizeLine then some (.str (i ++ j)) else none := rfl
@[simp] theorem o_lenS (y : PySem.Str) : bLen S [.str y] = if y.length ≤ sizeLine then some (.int (y.length : Nat)) else none := rfl
@[simp] theorem kd_emp : kdOf S .emp = some .dict := rfl
/-! statements -/
@[simp] theorem c_sNx : sNx Γ S = .nx Γ S := rfl
@[simp] theorem c_sBk : sBk Γ S = .bk Γ S := rfl
@[simp] theorem c_sCt : sCt Γ S = .ct Γ S := rfl
def seqR (r : RS) (g : Es) : RS := match r with
  | .nx Γ' S' => g Γ' S'
  | r => r
@[simp] theorem seqR_nx (g : Es) (Γ : Gm) (S : Store) : seqR (.nx Γ S) g = g Γ S := rfl
@[simp] theorem seqR_rt (g : Es) (d : D) (S : Store) : seqR (.rt d S) g = .rt d S := rfl
@[simp] theorem seqR_bk (g : Es) (Γ : Gm) (S : Store) : seqR (.bk Γ S) g = .bk Γ S := rfl
@[simp] theorem seqR_ct (g : Es) (Γ : Gm) (S : Store) : seqR (.ct Γ S) g = .ct Γ S := rfl
@[simp] theorem seqR_ex (g : Es) (C : PySem.Str) (fs : List (PySem.Str × D)) (Γ : Gm) (S : Store) : seqR (.ex C fs Γ S) g = .ex C fs Γ S := rfl
@[simp] theorem seqR_no (g : Es) : seqR .no g = .no := rfl
@[simp] theorem c_sSeq (f g : Es) : sSeq f g Γ S = seqR (f Γ S) g := rfl
@[simp] theorem c_sRt (f : Ev D) : sRt f Γ S = bindS Γ (f Γ S) fun d S' => .rt d S' := rfl
@[simp] theorem c_sRtN : sRtN Γ S = .rt .non S := rfl
@[simp] theorem c_sDr (f : Ev D) : sDr f Γ S = bindS Γ (f Γ S) fun _ S' => .nx Γ S' := rfl
@[simp] theorem c_sSet (i : Nat) (f : Ev D) : sSet i f Γ S = bindS Γ (f Γ S) fun d S' => .nx (Γ.set i (some (.val d))) S' := rfl
@[simp] theorem c_sNew (i : Nat) (f : Ev SO) : sNew i f Γ S = bindS Γ (f Γ S) fun o S' => .nx (Γ.set i (some (.own o))) S' := rfl
@[simp] theorem c_sIf (c : Ev Bool) (f g : Es) : sIf c f g Γ S = bindS Γ (c Γ S) fun b S' => if b then f Γ S' else g Γ S' := rfl
@[simp] theorem c_sFz (i : Nat) : sFz i Γ S = (match Γ[i]? with | some (some (.own (.lst ds))) => .nx (Γ.set i (some (.val (.lst ds)))) S | _ => .no) := rfl
@[simp] theorem c_sPb (i : Nat) : sPb i Γ S = (match Γ[i]? with | some (some (.own o)) => .nx (Γ.set i (some (.val (.loc S.length)))) (S ++ [o]) | _ => .no) := rfl
@[simp] theorem c_sMu (i : Nat) (m : SO → D → Option SO) (f : Ev D) : sMu i m f Γ S = (match Γ[i]? with
  | some (some (.own (.lst ds))) => bindS Γ (f Γ S) fun d S1 => (match m (.lst ds) d with
    | some o' => .nx (Γ.set i (some (.own o'))) S1
    | none => .no)
  | _ => .no) := rfl
@[simp] theorem c_sDPut (i : Nat) (fk fv : Ev D) : DL.sDPut i fk fv Γ S = bindS Γ (fv Γ S) fun v S1 => match curO Γ S1 i with
  | some _ => bindS Γ (fk Γ S1) fun k S2 => (match curO Γ S2 i with
    | some o => (match dPut o k v with
      | some o' => .nx (putO Γ S2 i o').1 (putO Γ S2 i o').2
      | none => .no)
    | none => .no)
  | none => .no := rfl
@[simp] theorem c_sIPut (i : Nat) (fk fv : Ev D) : sIPut i fk fv Γ S = bindS Γ (fv Γ S) fun v S1 => match curO Γ S1 i with
  | some _ => bindS Γ (fk Γ S1) fun k S2 => (match curO Γ S2 i, k with
    | some (.lst ds), .int z => (match ixN ds.length z with
      | some n => .nx (putO Γ S2 i (.lst (ds.set n v))).1 (putO Γ S2 i (.lst (ds.set n v))).2
      | none => .no)
    | _, _ => .no)
  | none => .no := rfl
@[simp] theorem c_sPot (i j : Nat) (z : Int) (f : Ev D) : sPot i j z f Γ S = bindS Γ (f Γ S) fun d S1 => match d with
  | .tup [a, b] => (match curO Γ S1 i with
    | some (.lst ds) => (match ixN ds.length z with
      | some n => .nx ((putO Γ S1 i (.lst (ds.set n a))).1.set j (some (.val b))) (putO Γ S1 i (.lst (ds.set n a))).2
      | none => .no)
    | _ => .no)
  | _ => .no := rfl
@[simp] theorem c_sUnp (t : Tgt) (f : Ev D) : sUnp t f Γ S = bindS Γ (f Γ S) fun d S1 => match t.run d Γ with | some Γ' => .nx Γ' S1 | none => .no := rfl
@[simp] theorem c_mNil : mNil Γ S = .ok [] S := rfl
@[simp] theorem c_mVal (f : Ev D) (g : Ev (List Sl)) : mVal f g Γ S = (f Γ S).bind fun d S1 => (g Γ S1).bind fun ds S2 => .ok (.val d :: ds) S2 := rfl
@[simp] theorem c_mNew (f : Ev SO) (g : Ev (List Sl)) : mNew f g Γ S = (f Γ S).bind fun d S1 => (g Γ S1).bind fun ds S2 => .ok (.own d :: ds) S2 := rfl
@[simp] theorem c_sPar (is : List Nat) (g : Ev (List Sl)) : sPar is g Γ S = bindS Γ (g Γ S) fun ss S1 => if ss.length = is.length then .nx (setM Γ is ss) S1 else .no := rfl
@[simp] theorem c_setM (i : Nat) (is : List Nat) (s : Sl) (ss : List Sl) : setM Γ (i :: is) (s :: ss) = setM (Γ.set i (some s)) is ss := rfl
@[simp] theorem c_setM0 : setM Γ [] [] = Γ := rfl
@[simp] theorem c_sFor (it : Ev (List D)) (t : Tgt) (body : Es) : sFor it t body Γ S = bindS Γ (it Γ S) fun ds S1 => forL t body ds Γ S1 := rfl
@[simp] theorem c_sLApp (g f : Ev D) : sLApp g f Γ S = bindS Γ (g Γ S) fun o S1 => match o with
  | .loc n => (match S1[n]? with
    | some (.lst _) => bindS Γ (f Γ S1) fun d S2 => (match S2[n]? with
      | some (.lst ds) => if ds.length < sizeLine then .nx Γ (S2.set n (.lst (ds ++ [d]))) else .no
      | _ => .no)
    | _ => .no)
  | _ => .no := rfl
@[simp] theorem c_sLClr (g : Ev D) : sLClr g Γ S = bindS Γ (g Γ S) fun o S1 => match o with
  | .loc n => (match S1[n]? with
    | some (.lst _) => .nx Γ (S1.set n (.lst []))
    | _ => .no)
  | _ => .no := rfl
@[simp] theorem c_sRaise2 (C f1 f2 : PySem.Str) (g : Ev (List D)) : sRaise2 C f1 f2 g Γ S = bindS Γ (g Γ S) fun ds S1 => match ds with | [a, b] => .ex C [(f2, b), (f1, a)] Γ S1 | _ => .no := rfl
@[simp] theorem c_gV (i : Nat) (d : D) : (gV i).run d Γ = some (Γ.set i (some (.val d))) := rfl
@[simp] theorem c_gT (n : Nat) (u : List D → Gm → Option Gm) (ix : List Nat) (ds : List D) (h : ds.length = n) : (gT n u ix).run (.tup ds) Γ = u ds Γ := by
  unfold gT
  simp [h]
@[simp] theorem c_gTl (n : Nat) (u : List D → Gm → Option Gm) (ix : List Nat) (ds : List D) (h : ds.length = n) : (gT n u ix).run (.lst ds) Γ = u ds Γ := by
  unfold gT
  simp [h]
@[simp] theorem c_gNilR : gNilR [] Γ = some Γ := rfl
@[simp] theorem c_gConsR (t : Tgt) (u : List D → Gm → Option Gm) (d : D) (r : List D) : gConsR t u (d :: r) Γ = (match t.run d Γ with | some Γ' => u r Γ' | none => none) := rfl
@[simp] theorem c_wipe0 : wipeG Γ [] = Γ := rfl
@[simp] theorem c_wipe (v : Nat) (vs : List Nat) : wipeG Γ (v :: vs) = (wipeG Γ vs).set v none := rfl
@[simp] theorem c_putO (i : Nat) (o' : SO) : putO Γ S i o' = (match Γ[i]? with | some (some (.own _)) => (Γ.set i (some (.own o')), S) | some (some (.val (.loc n))) => (Γ, S.set n o') | _ => (Γ, S)) := rfl
@[simp] theorem c_curO (i : Nat) : curO Γ S i = (match Γ[i]? with | some (some (.own o)) => some o | some (some (.val (.loc n))) => S[n]? | _ => none) := rfl
@[simp] theorem o_ixLoc (ds : List D) (R : Store) (i : Int) : oIx (.lst ds :: R) (.loc 0) (.int i) = L2.atI ds i := rfl
@[simp] theorem ixN_0 (n : Nat) : L2.ixN (n + 1) 0 = some 0 := by unfold L2.ixN; simp
@[simp] theorem ixN_1 (n : Nat) : L2.ixN (n + 2) 1 = some 1 := by unfold L2.ixN; simp; omega
@[simp] theorem sz_eq : sizeLine = 16777216 := sizeLine_eq
@[simp] theorem c_sKill (is : List Nat) : sKill is Γ S = .nx (killG Γ is) S := rfl
@[simp] theorem c_kill0 : killG Γ [] = Γ := rfl
@[simp] theorem c_kill (i : Nat) (is : List Nat) : killG Γ (i :: is) = killG (Γ.set i none) is := rfl
/-! operations -/
@[simp] theorem o_sub (i j : Int) : oSub S (.int i) (.int j) = some (.int (i - j)) := rfl
@[simp] theorem o_add (i j : Int) : oAdd S (.int i) (.int j) = some (.int (i + j)) := rfl
@[simp] theorem o_mul (i j : Int) : oMul S (.int i) (.int j) = if mulOk i j then some (.int (i * j)) else none := rfl
@[simp] theorem o_fdv (i j : Int) : oFdv S (.int i) (.int j) = if divOk i j then some (.int (i / j)) else none := rfl
@[simp] theorem o_mod (i j : Int) : oMod S (.int i) (.int j) = if decide (0 < j) then some (.int (i % j)) else none := rfl
@[simp] theorem o_pow (i j : Int) : oPow S (.int i) (.int j) = if powOk i j then some (.int (i ^ j.toNat)) else none := rfl
@[simp] theorem o_addT (xs ys : List D) : oAdd S (.tup xs) (.tup ys) = if xs.length + ys.length ≤ sizeLine then some (.tup (xs ++ ys)) else none := rfl
@[simp] theorem o_addL (xs ys : List D) : oAdd S (.lst xs) (.lst ys) = if xs.length + ys.length ≤ sizeLine then some (.lst (xs ++ ys)) else none := rfl
@[simp] theorem o_mulT (xs : List D) (k : Int) : oMul S (.tup xs) (.int k) = if k = 1 then some (.tup xs) else if decide (2 ≤ k) && decide (k ≤ 1000) && decide (xs.length ≤ 1000) && !xs.isEmpty then some (.tup (List.replicate k.toNat xs).flatten) else none := rfl
@[simp] theorem o_lt (i j : Int) : oLt S (.int i) (.int j) = some (.bl (decide (i < j))) := rfl
@[simp] theorem o_le (i j : Int) : oLe S (.int i) (.int j) = some (.bl (decide (i ≤ j))) := rfl
@[simp] theorem o_gt (i j : Int) : oGt S (.int i) (.int j) = some (.bl (decide (j < i))) := rfl
@[simp] theorem o_ge (i j : Int) : oGe S (.int i) (.int j) = some (.bl (decide (j ≤ i))) := rfl
@[simp] theorem o_eq (i j : Int) : oEq S (.int i) (.int j) = some (.bl (decide (i = j))) := rfl
@[simp] theorem o_ne (i j : Int) : oNe S (.int i) (.int j) = some (.bl (!decide (i = j))) := rfl
@[simp] theorem o_eqs (i j : PySem.Str) : oEq S (.str i) (.str j) = some (.bl (decide (i = j))) := rfl
@[simp] theorem o_nes (i j : PySem.Str) : oNe S (.str i) (.str j) = some (.bl (!decide (i = j))) := rfl
@[simp] theorem o_isN0 : oIsN S .non .non = some (.bl true) := rfl
@[simp] theorem o_isN1 (i : Int) : oIsN S (.int i) .non = some (.bl false) := rfl
@[simp] theorem o_isi (c : Kd) (a : D) : bIsi c S [a, .raw (.ty c.name)] = if decide (c ≠ .non) then (kdOf S a).map fun k => .bl (k.isa c) else none := by
  show (if (c.name == c.name) && decide (c ≠ .non) then _ else _) = _
  rw [beq_self_eq_true, Bool.true_and]
@[simp] theorem kd_int (i : Int) : kdOf S (.int i) = some .int := rfl
@[simp] theorem kd_bl (i : Bool) : kdOf S (.bl i) = some .bl := rfl
@[simp] theorem kd_non : kdOf S .non = some .non := rfl
@[simp] theorem kd_str (i : PySem.Str) : kdOf S (.str i) = some .str := rfl
@[simp] theorem kd_tup (i : List D) : kdOf S (.tup i) = some .tup := rfl
@[simp] theorem kd_lst (i : List D) : kdOf S (.lst i) = some .lst := rfl
@[simp] theorem kd_kst (i : List D) : kdOf S (.kst i) = some .lst := rfl
@[simp] theorem o_ixT (ds : List D) (i : Int) : oIx S (.tup ds) (.int i) = L2.atI ds i := rfl
@[simp] theorem o_ixL (ds : List D) (i : Int) : oIx S (.lst ds) (.int i) = L2.atI ds i := rfl
@[simp] theorem o_ixK (ds : List D) (i : Int) : oIx S (.kst ds) (.int i) = L2.atI ds i := rfl
@[simp] theorem o_lenT (ds : List D) : bLen S [.tup ds] = some (.int (ds.length : Nat)) := rfl
@[simp] theorem o_lenL (ds : List D) : bLen S [.lst ds] = some (.int (ds.length : Nat)) := rfl
@[simp] theorem o_lenK (ds : List D) : bLen S [.kst ds] = some (.int (ds.length : Nat)) := rfl
@[simp] theorem o_abs (i : Int) : bAbs S [.int i] = some (.int (if i < 0 then -i else i)) := rfl
@[simp] theorem o_intI (i : Int) : bInt S [.int i] = some (.int i) := rfl
@[simp] theorem o_intB (b : Bool) : bInt S [.bl b] = some (.int (if b then 1 else 0)) := rfl
@[simp] theorem o_max2 (i j : Int) : bMax2 S [.int i, .int j] = some (.int (if j > i then j else i)) := rfl
@[simp] theorem o_min2 (i j : Int) : bMin2 S [.int i, .int j] = some (.int (if j < i then j else i)) := rfl
@[simp] theorem o_dm (i j : Int) : bDm S [.int i, .int j] = if divOk i j then some (.tup [.int (i / j), .int (i % j)]) else none := rfl
@[simp] theorem o_all (ds : List D) : bAll S [.lst ds] = (blsOf ds).map fun bs => .bl (bs.all id) := rfl
@[simp] theorem o_any (ds : List D) : bAny S [.lst ds] = (blsOf ds).map fun bs => .bl (bs.any id) := rfl
@[simp] theorem o_sum (ds : List D) : bSum S [.lst ds] = (intsOf ds).map fun ns => .int ns.sum := rfl
@[simp] theorem o_tupL (ds : List D) : bTup S [.lst ds] = some (.tup ds) := rfl
@[simp] theorem o_tupT (ds : List D) : bTup S [.tup ds] = some (.tup ds) := rfl
@[simp] theorem o_slT (ds : List D) (l u : Option Int) : slD S (.tup ds) l u = some (.tup (cutD ds l u)) := rfl
@[simp] theorem o_slL (ds : List D) (l u : Option Int) : slD S (.lst ds) l u = some (.lst (cutD ds l u)) := rfl
@[simp] theorem v_lst (ds : List D) : viewLs S (.lst ds) = some ds := rfl
@[simp] theorem m_app (ds : List D) (d : D) : mApp (.lst ds) d = if ds.length < sizeLine then some (.lst (ds ++ [d])) else none := rfl
@[simp] theorem m_ext (ds es : List D) : mExt (.lst ds) (.lst es) = if ds.length + es.length ≤ sizeLine then some (.lst (ds ++ es)) else none := rfl
end
@[simp] theorem o_enT (ds : List D) : enumOf [.tup ds] = some (enumD ds) := rfl
@[simp] theorem o_enL (ds : List D) : enumOf [.lst ds] = some (enumD ds) := rfl
@[simp] theorem o_ziT (xs ys : List D) : zipD [.tup xs, .tup ys] = some (zips xs ys) := rfl
@[simp] theorem o_ziL (xs ys : List D) : zipD [.lst xs, .lst ys] = some (zips xs ys) := rfl
/-! lists -/
theorem blsOf_map {α : Type} (f : α → Bool) : ∀ l : List α, blsOf (l.map fun x => .bl (f x)) = some (l.map f)
  | [] => rfl
  | x :: l => by simp [blsOf, blsOf_map f l]
theorem intsOf_mapI {α : Type} (f : α → Int) : ∀ l : List α, intsOf (l.map fun x => .int (f x)) = some (l.map f)
  | [] => rfl
  | x :: l => by simp [intsOf, intsOf_mapI f l]
@[simp] theorem intsOf_int (l : List Int) : intsOf (l.map .int) = some l := by simpa using intsOf_mapI (fun x => x) l
theorem atI_nat {α : Type} {l : List α} {i : Nat} (h : i < l.length) : L2.atI l (i : Int) = some l[i] := by
  unfold L2.atI L2.ixN
  have : ((i : Nat) : Int) < (l.length : Nat) := by omega
  simp [this, h]
theorem atI_int {α : Type} {l : List α} {i : Int} (h0 : 0 ≤ i) (h : i.toNat < l.length) : L2.atI l i = some l[i.toNat] := by
  have e : i = (i.toNat : Int) := by omega
  have z := atI_nat h
  rw [← e] at z
  exact z
@[simp] theorem atI_0 {α : Type} (a : α) (l : List α) : L2.atI (a :: l) 0 = some a := by
  have := atI_nat (l := a :: l) (i := 0) (by simp)
  simpa using this
@[simp] theorem atI_1 {α : Type} (a b : α) (l : List α) : L2.atI (a :: b :: l) 1 = some b := by
  have := atI_nat (l := a :: b :: l) (i := 1) (by simp)
  simpa using this
@[simp] theorem atI_2 {α : Type} (a b c : α) (l : List α) : L2.atI (a :: b :: c :: l) 2 = some c := by
  have := atI_nat (l := a :: b :: c :: l) (i := 2) (by simp)
  simpa using this
@[simp] theorem atI_3 {α : Type} (a b c d : α) (l : List α) : L2.atI (a :: b :: c :: d :: l) 3 = some d := by
  have := atI_nat (l := a :: b :: c :: d :: l) (i := 3) (by simp)
  simpa using this
theorem lcL_ok {α : Type} {t : Tgt} {c : Ev Bool} {f : Ev D} {Γ : Gm} {S : Store} (g : α → D) (p : α → Bool) (h : α → D) : ∀ (l : List α), (∀ x ∈ l, (t.run (g x) Γ).elim .no (fun Γ1 => c Γ1 S) = .ok (p x) S) → (∀ x ∈ l, p x = true → (t.run (g x) Γ).elim .no (fun Γ1 => f Γ1 S) = .ok (h x) S) →
    lcL t c f Γ (l.map g) S = .ok ((l.filter p).map h) S
  | [], _, _ => rfl
  | x :: l, k, k' => by
    have h1 := k x (by simp)
    have h2 := k' x (by simp)
    have ih := lcL_ok (c := c) (f := f) g p h l (fun y hy => k y (by simp [hy])) fun y hy => k' y (by simp [hy])
    rw [List.map_cons]
    unfold lcL
    cases e : t.run (g x) Γ with
    | none => rw [e] at h1; cases h1
    | some Γ1 =>
      rw [e] at h1 h2
      simp only [Option.elim_some] at h1 h2
      simp only [h1, noEx_ok, RE.bind_ok]
      cases e2 : p x with
      | true => simp [h2 e2, ih, e2]
      | false => simp [ih, e2]
theorem lcL_all {α : Type} {t : Tgt} {f : Ev D} {Γ : Gm} {S : Store} (g : α → D) (h : α → D) : ∀ (l : List α), (∀ x ∈ l, (t.run (g x) Γ).elim .no (fun Γ1 => f Γ1 S) = .ok (h x) S) → lcL t bYes f Γ (l.map g) S = .ok (l.map h) S
  | [], _ => rfl
  | x :: l, k => by
    have h2 := k x (by simp)
    have ih := lcL_all (f := f) g h l (fun y hy => k y (by simp [hy]))
    rw [List.map_cons]
    unfold lcL
    cases e : t.run (g x) Γ with
    | none => rw [e] at h2; cases h2
    | some Γ1 =>
      rw [e] at h2
      simp only [Option.elim_some] at h2
      simp [h2, ih]
/-- a comprehension that draws: an invariant of the store -/
theorem lcL_inv {t : Tgt} {f : Ev D} {Γ : Gm} (I : Store → Prop) (P : D → Prop) : ∀ (ds : List D) (S : Store), I S → (∀ d ∈ ds, ∀ S, I S → ∃ x S', (t.run d Γ).elim .no (fun Γ1 => f Γ1 S) = .ok x S' ∧ I S' ∧ P x) →
    ∃ xs S', lcL t bYes f Γ ds S = .ok xs S' ∧ I S' ∧ xs.length = ds.length ∧ ∀ x ∈ xs, P x
  | [], S, h, _ => ⟨[], S, rfl, h, rfl, fun x hx => by cases hx⟩
  | d :: ds, S, h, k => by
    obtain ⟨x, S1, h2, h3, h4⟩ := k d (by simp) S h
    obtain ⟨xs, S2, e1, e2, e3, e4⟩ := lcL_inv I P ds S1 h3 fun d' hd => k d' (by simp [hd])
    refine ⟨x :: xs, S2, ?_, e2, by simp [e3], fun y hy => ?_⟩
    · unfold lcL
      cases e : t.run d Γ with
      | none => rw [e] at h2; cases h2
      | some Γ1 =>
        rw [e] at h2
        simp only [Option.elim_some] at h2
        simp [h2, e1]
    · rcases List.mem_cons.mp hy with rfl | hy
      · exact h4
      · exact e4 y hy
@[simp] theorem forL_nil {t : Tgt} {b : Es} {Γ : Gm} {S : Store} : forL t b [] Γ S = .nx Γ S := rfl
theorem forL_nx {t : Tgt} {b : Es} {d : D} {ds : List D} {Γ Γ1 Γ2 : Gm} {S S2 : Store} (h1 : t.run d Γ = some Γ1) (h2 : b Γ1 S = .nx Γ2 S2) : forL t b (d :: ds) Γ S = forL t b ds Γ2 S2 := by
  rw [forL]; simp only [h1, h2]
theorem forL_rt {t : Tgt} {b : Es} {d : D} {ds : List D} {Γ Γ1 : Gm} {S S2 : Store} {v : D} (h1 : t.run d Γ = some Γ1) (h2 : b Γ1 S = .rt v S2) : forL t b (d :: ds) Γ S = .rt v S2 := by
  rw [forL]; simp only [h1, h2]
theorem forL_bk {t : Tgt} {b : Es} {d : D} {ds : List D} {Γ Γ1 Γ2 : Gm} {S S2 : Store} (h1 : t.run d Γ = some Γ1) (h2 : b Γ1 S = .bk Γ2 S2) : forL t b (d :: ds) Γ S = .nx Γ2 S2 := by
  rw [forL]; simp only [h1, h2]
theorem whL_t {c : Ev Bool} {b : Es} {n : Nat} {Γ Γ2 : Gm} {S S1 S2 : Store} (h1 : c Γ S = .ok true S1) (h2 : b Γ S1 = .nx Γ2 S2) : whL c b (n + 1) Γ S = whL c b n Γ2 S2 := by
  rw [whL]; simp only [h1, h2, bindS_ok, if_true]
theorem whL_f {c : Ev Bool} {b : Es} {n : Nat} {Γ : Gm} {S S1 : Store} (h1 : c Γ S = .ok false S1) : whL c b (n + 1) Γ S = .nx Γ S1 := by
  rw [whL]; simp only [h1, bindS_ok]; rfl
/-- a for loop by an invariant -/
theorem forL_inv {t : Tgt} {body : Es} (I : Nat → Gm → Store → Prop) : ∀ (ds : List D) (n : Nat) (Γ : Gm) (S : Store), I n Γ S → (∀ i d Γ S, ds[i]? = some d → I (n + i) Γ S → ∃ Γ1 Γ2 S2, t.run d Γ = some Γ1 ∧ body Γ1 S = .nx Γ2 S2 ∧ I (n + i + 1) Γ2 S2) →
    ∃ Γ' S', forL t body ds Γ S = .nx Γ' S' ∧ I (n + ds.length) Γ' S'
  | [], n, Γ, S, h, _ => ⟨Γ, S, rfl, h⟩
  | d :: ds, n, Γ, S, h, k => by
    obtain ⟨Γ1, Γ2, S2, h1, h2, h3⟩ := k 0 d Γ S rfl h
    obtain ⟨Γ', S', e1, e2⟩ := forL_inv I ds (n + 1) Γ2 S2 h3 fun i d' Γ S hi hI => by
      have := k (i + 1) d' Γ S (by simpa using hi) (by rw [show n + (i + 1) = n + 1 + i by omega]; exact hI)
      rw [show n + (i + 1) + 1 = n + 1 + i + 1 by omega] at this
      exact this
    refine ⟨Γ', S', ?_, by rw [List.length_cons, show n + (ds.length + 1) = n + 1 + ds.length by omega]; exact e2⟩
    unfold forL
    simp [h1, h2, e1]
theorem rngD_eq (lo : Int) (n : Nat) : rngD lo n = (List.range n).map fun i => .int (lo + (i : Nat)) := rfl
theorem p62 : (2 : Int) ^ 62 = 4611686018427387904 := by decide
theorem p24 : (2 : Nat) ^ 24 = 16777216 := by decide
theorem rgOk_of {a b : Int} (h1 : 0 ≤ a) (h2 : a ≤ b) (h3 : b ≤ 1000000) : rgOk a b = true := by
  unfold rgOk
  rw [p62, p24]
  have e1 : decide (-4611686018427387904 ≤ a) = true := decide_eq_true (by omega)
  have e2 : decide (a < 4611686018427387904) = true := decide_eq_true (by omega)
  have e3 : decide (-4611686018427387904 ≤ b) = true := decide_eq_true (by omega)
  have e4 : decide (b < 4611686018427387904) = true := decide_eq_true (by omega)
  have e5 : decide ((b - a).toNat ≤ 16777216) = true := decide_eq_true (by omega)
  rw [e1, e2, e3, e4, e5]
  rfl
/-- a for loop by a fold -/
theorem forL_fold {α β : Type} {t : Tgt} {body : Es} {S : Store} (G : β → Gm) (g : α → D) (st : β → α → β) (I : β → Prop) : ∀ (l : List α) (b : β), I b → (∀ x ∈ l, ∀ b, I b → (t.run (g x) (G b)).elim .no (fun Γ1 => body Γ1 S) = .nx (G (st b x)) S ∧ I (st b x)) →
    forL t body (l.map g) (G b) S = .nx (G (l.foldl st b)) S ∧ I (l.foldl st b)
  | [], b, h, _ => ⟨rfl, h⟩
  | x :: l, b, h, k => by
    obtain ⟨k1, k2⟩ := k x (by simp) b h
    cases e : t.run (g x) (G b) with
    | none => rw [e] at k1; cases k1
    | some Γ1 =>
      rw [e] at k1
      rw [List.map_cons, forL_nx e k1, List.foldl_cons]
      exact forL_fold G g st I l _ k2 fun y hy => k y (by simp [hy])
end DL
set_option Elab.async false
set_option linter.all false
set_option maxRecDepth 100000
set_option maxHeartbeats 4000000
namespace K75
open PySem PySem.Spec PyProof.Rows L2 DL
def top (i : Nat) : Stmt := PySem.Challenge.pw_settledhands_k75_whole_programs_of_hands.main.body.getD i (.Pass ⟨0, 0, 0, 0⟩)
abbrev s_is_integer : Stmt := top 8
def d_is_integer : He.DefD := ⟨("is_integer", none), "is_integer", "is_integer", defArgs s_is_integer, defBody s_is_integer, defScope s_is_integer, [], []⟩
abbrev s_is_count : Stmt := top 9
def d_is_count : He.DefD := ⟨("is_count", none), "is_count", "is_count", defArgs s_is_count, defBody s_is_count, defScope s_is_count, [], []⟩
abbrev s_is_move_of : Stmt := top 15
def d_is_move_of : He.DefD := ⟨("is_move_of", none), "is_move_of", "is_move_of", defArgs s_is_move_of, defBody s_is_move_of, defScope s_is_move_of, [], []⟩
abbrev s_are_place_moves : Stmt := top 16
def d_are_place_moves : He.DefD := ⟨("are_place_moves", none), "are_place_moves", "are_place_moves", defArgs s_are_place_moves, defBody s_are_place_moves, defScope s_are_place_moves, [], []⟩
abbrev s_are_owners_of : Stmt := top 17
def d_are_owners_of : He.DefD := ⟨("are_owners_of", none), "are_owners_of", "are_owners_of", defArgs s_are_owners_of, defBody s_are_owners_of, defScope s_are_owners_of, [], []⟩
abbrev s_is_plant_of : Stmt := top 18
def d_is_plant_of : He.DefD := ⟨("is_plant_of", none), "is_plant_of", "is_plant_of", defArgs s_is_plant_of, defBody s_is_plant_of, defScope s_is_plant_of, [], []⟩
abbrev s_is_any_plant : Stmt := top 19
def d_is_any_plant : He.DefD := ⟨("is_any_plant", none), "is_any_plant", "is_any_plant", defArgs s_is_any_plant, defBody s_is_any_plant, defScope s_is_any_plant, [], []⟩
abbrev s_want_plant : Stmt := top 20
def d_want_plant : He.DefD := ⟨("want_plant", none), "want_plant", "want_plant", defArgs s_want_plant, defBody s_want_plant, defScope s_want_plant, [], []⟩
abbrev s_moves_of : Stmt := top 21
def d_moves_of : He.DefD := ⟨("moves_of", none), "moves_of", "moves_of", defArgs s_moves_of, defBody s_moves_of, defScope s_moves_of, [], []⟩
abbrev s_is_taken : Stmt := top 24
def d_is_taken : He.DefD := ⟨("is_taken", none), "is_taken", "is_taken", defArgs s_is_taken, defBody s_is_taken, defScope s_is_taken, [], []⟩
abbrev s_are_taken : Stmt := top 25
def d_are_taken : He.DefD := ⟨("are_taken", none), "are_taken", "are_taken", defArgs s_are_taken, defBody s_are_taken, defScope s_are_taken, [], []⟩
abbrev s_are_next : Stmt := top 26
def d_are_next : He.DefD := ⟨("are_next", none), "are_next", "are_next", defArgs s_are_next, defBody s_are_next, defScope s_are_next, [], []⟩
abbrev s_is_machine_of : Stmt := top 27
def d_is_machine_of : He.DefD := ⟨("is_machine_of", none), "is_machine_of", "is_machine_of", defArgs s_is_machine_of, defBody s_is_machine_of, defScope s_is_machine_of, [], []⟩
abbrev s_is_hand_of : Stmt := top 28
def d_is_hand_of : He.DefD := ⟨("is_hand_of", none), "is_hand_of", "is_hand_of", defArgs s_is_hand_of, defBody s_is_hand_of, defScope s_is_hand_of, [], []⟩
abbrev s_want_hand : Stmt := top 29
def d_want_hand : He.DefD := ⟨("want_hand", none), "want_hand", "want_hand", defArgs s_want_hand, defBody s_want_hand, defScope s_want_hand, [], []⟩
abbrev s_lines_of : Stmt := top 33
def d_lines_of : He.DefD := ⟨("lines_of", none), "lines_of", "lines_of", defArgs s_lines_of, defBody s_lines_of, defScope s_lines_of, [], []⟩
abbrev s_number_in : Stmt := top 34
def d_number_in : He.DefD := ⟨("number_in", none), "number_in", "number_in", defArgs s_number_in, defBody s_number_in, defScope s_number_in, [], []⟩
abbrev s_memories_in : Stmt := top 35
def d_memories_in : He.DefD := ⟨("memories_in", none), "memories_in", "memories_in", defArgs s_memories_in, defBody s_memories_in, defScope s_memories_in, [], []⟩
abbrev s_take_in : Stmt := top 36
def d_take_in : He.DefD := ⟨("take_in", none), "take_in", "take_in", defArgs s_take_in, defBody s_take_in, defScope s_take_in, [], []⟩
abbrev s_step_in : Stmt := top 37
def d_step_in : He.DefD := ⟨("step_in", none), "step_in", "step_in", defArgs s_step_in, defBody s_step_in, defScope s_step_in, [], []⟩
abbrev s_line_in : Stmt := top 38
def d_line_in : He.DefD := ⟨("line_in", none), "line_in", "line_in", defArgs s_line_in, defBody s_line_in, defScope s_line_in, [], []⟩
abbrev s_put_first : Stmt := top 39
def d_put_first : He.DefD := ⟨("put_first", none), "put_first", "put_first", defArgs s_put_first, defBody s_put_first, defScope s_put_first, [], []⟩
abbrev s_tables_of : Stmt := top 40
def d_tables_of : He.DefD := ⟨("tables_of", none), "tables_of", "tables_of", defArgs s_tables_of, defBody s_tables_of, defScope s_tables_of, [], []⟩
abbrev s_hand_in : Stmt := top 41
def d_hand_in : He.DefD := ⟨("hand_in", none), "hand_in", "hand_in", defArgs s_hand_in, defBody s_hand_in, defScope s_hand_in, [], []⟩
abbrev s_hand_text : Stmt := top 42
def d_hand_text : He.DefD := ⟨("hand_text", none), "hand_text", "hand_text", defArgs s_hand_text, defBody s_hand_text, defScope s_hand_text, [], []⟩
abbrev s_hand_of_text : Stmt := top 43
def d_hand_of_text : He.DefD := ⟨("hand_of_text", none), "hand_of_text", "hand_of_text", defArgs s_hand_of_text, defBody s_hand_of_text, defScope s_hand_of_text, [], []⟩
abbrev s__law_pot : Stmt := top 45
def d__law_pot : He.DefD := ⟨("_law_pot", none), "_law_pot", "_law_pot", defArgs s__law_pot, defBody s__law_pot, defScope s__law_pot, [], []⟩
abbrev s__law_draw : Stmt := top 46
def d__law_draw : He.DefD := ⟨("_law_draw", none), "_law_draw", "_law_draw", defArgs s__law_draw, defBody s__law_draw, defScope s__law_draw, [], []⟩
abbrev s__law_pick : Stmt := top 47
def d__law_pick : He.DefD := ⟨("_law_pick", none), "_law_pick", "_law_pick", defArgs s__law_pick, defBody s__law_pick, defScope s__law_pick, [], []⟩
abbrev s__law_moves : Stmt := top 48
def d__law_moves : He.DefD := ⟨("_law_moves", none), "_law_moves", "_law_moves", defArgs s__law_moves, defBody s__law_moves, defScope s__law_moves, [], []⟩
abbrev s__law_plant : Stmt := top 49
def d__law_plant : He.DefD := ⟨("_law_plant", none), "_law_plant", "_law_plant", defArgs s__law_plant, defBody s__law_plant, defScope s__law_plant, [], []⟩
abbrev s__law_hand : Stmt := top 50
def d__law_hand : He.DefD := ⟨("_law_hand", none), "_law_hand", "_law_hand", defArgs s__law_hand, defBody s__law_hand, defScope s__law_hand, [], []⟩
abbrev s__law_line : Stmt := top 51
def d__law_line : He.DefD := ⟨("_law_line", none), "_law_line", "_law_line", defArgs s__law_line, defBody s__law_line, defScope s__law_line, [], []⟩
abbrev s__law_text : Stmt := top 52
def d__law_text : He.DefD := ⟨("_law_text", none), "_law_text", "_law_text", defArgs s__law_text, defBody s__law_text, defScope s__law_text, [], []⟩
abbrev s__law_rows : Stmt := top 53
def d__law_rows : He.DefD := ⟨("_law_rows", none), "_law_rows", "_law_rows", defArgs s__law_rows, defBody s__law_rows, defScope s__law_rows, [], []⟩
abbrev s__law_first : Stmt := top 54
def d__law_first : He.DefD := ⟨("_law_first", none), "_law_first", "_law_first", defArgs s__law_first, defBody s__law_first, defScope s__law_first, [], []⟩
abbrev s__law_told : Stmt := top 55
def d__law_told : He.DefD := ⟨("_law_told", none), "_law_told", "_law_told", defArgs s__law_told, defBody s__law_told, defScope s__law_told, [], []⟩
abbrev s__law_drawn_rows : Stmt := top 56
def d__law_drawn_rows : He.DefD := ⟨("_law_drawn_rows", none), "_law_drawn_rows", "_law_drawn_rows", defArgs s__law_drawn_rows, defBody s__law_drawn_rows, defScope s__law_drawn_rows, [], []⟩
abbrev s__law_heard : Stmt := top 57
def d__law_heard : He.DefD := ⟨("_law_heard", none), "_law_heard", "_law_heard", defArgs s__law_heard, defBody s__law_heard, defScope s__law_heard, [], []⟩
abbrev s__law_odd_lines : Stmt := top 58
def d__law_odd_lines : He.DefD := ⟨("_law_odd_lines", none), "_law_odd_lines", "_law_odd_lines", defArgs s__law_odd_lines, defBody s__law_odd_lines, defScope s__law_odd_lines, [], []⟩
abbrev s__law_wrong_right : Stmt := top 59
def d__law_wrong_right : He.DefD := ⟨("_law_wrong_right", none), "_law_wrong_right", "_law_wrong_right", defArgs s__law_wrong_right, defBody s__law_wrong_right, defScope s__law_wrong_right, [], []⟩
abbrev s__law_right : Stmt := top 60
def d__law_right : He.DefD := ⟨("_law_right", none), "_law_right", "_law_right", defArgs s__law_right, defBody s__law_right, defScope s__law_right, [], []⟩
abbrev s__law_long_right : Stmt := top 61
def d__law_long_right : He.DefD := ⟨("_law_long_right", none), "_law_long_right", "_law_long_right", defArgs s__law_long_right, defBody s__law_long_right, defScope s__law_long_right, [], []⟩
abbrev s_law : Stmt := top 62
def d_law : He.DefD := ⟨("law", none), "law", "law", defArgs s_law, defBody s_law, defScope s_law, [], []⟩
def clsB (st : Stmt) : List Stmt := match st with | .ClassDef (body := b) .. => b | _ => []
abbrev sI_BadText : Stmt := (clsB (top 4)).getD 0 (.Pass ⟨0, 0, 0, 0⟩)
def dI_BadText : He.DefD := ⟨("BadText", some "__init__"), "__init__", "BadText.__init__", defArgs sI_BadText, defBody sI_BadText, defScope sI_BadText, [], []⟩
abbrev sI_HandError : Stmt := (clsB (top 1)).getD 0 (.Pass ⟨0, 0, 0, 0⟩)
def dI_HandError : He.DefD := ⟨("HandError", some "__init__"), "__init__", "HandError.__init__", defArgs sI_HandError, defBody sI_HandError, defScope sI_HandError, [.non], []⟩
def mX : List (PySem.Str × PySem.Str) := [("BadText", "InvalidText"), ("InvalidText", "BadText")]
def ex (K : PySem.W.Frag) : Bool := sysB K && (exmB K mX && (oexAB K (He.ga K "BadText") && (exFB K (He.ga K "BadText") && (decide (PySem.W.exmOne K (.ref (He.ga K "BadText")) (.ref (He.ga K "BadText")) = some true) && (decide (PySem.W.findIn K (.ref (He.ga K "BadText")) "__init__" = some (some (.ref (He.fAd K ("BadText", some "__init__"))))) && (decide (PySem.W.typeIn K (.ref (He.fAd K ("BadText", some "__init__"))) = some (.type "function")) && (decide (PySem.W.findIn K (.ref (He.ga K "BadText")) "line" = some none) && (oexAB K (He.ga K "InvalidText") && (exFB K (He.ga K "InvalidText") && (decide (PySem.W.exmOne K (.ref (He.ga K "InvalidText")) (.ref (He.ga K "InvalidText")) = some true) && (decide (PySem.W.findIn K (.ref (He.ga K "InvalidText")) "__init__" = some (some (.ref (He.fAd K ("HandError", some "__init__"))))) && (decide (PySem.W.typeIn K (.ref (He.fAd K ("HandError", some "__init__"))) = some (.type "function")) && (decide (PySem.W.findIn K (.ref (He.ga K "InvalidText")) "value" = some none) && (decide (PySem.W.kitOne K (.ref (He.ga K "BadText")) (.ref (He.ga K "HandError")) = some true) && (decide (PySem.W.kitOne K (.ref (He.ga K "InvalidText")) (.ref (He.ga K "HandError")) = some true) && (true))))))))))))))))
def fn : List He.DefD := [d_is_integer, d_is_count, d_is_move_of, d_are_place_moves, d_are_owners_of, d_is_plant_of, d_is_any_plant, d_want_plant, d_moves_of, d_is_taken, d_are_taken, d_are_next, d_is_machine_of, d_is_hand_of, d_want_hand, d_lines_of, d_number_in, d_memories_in, d_take_in, d_step_in, d_line_in, d_put_first, d_tables_of, d_hand_in, d_hand_text, d_hand_of_text, d__law_pot, d__law_draw, d__law_pick, d__law_moves, d__law_plant, d__law_hand, d__law_line, d__law_text, d__law_rows, d__law_first, d__law_told, d__law_drawn_rows, d__law_heard, d__law_odd_lines, d__law_wrong_right, d__law_right, d__law_long_right, d_law, dI_BadText, dI_HandError]
def fa : List He.Fa := ([.free "isinstance", .free "int", .free "bool", .free "tuple", .free "len", .int "MOST_PLACE_MOVES" 24, .free "all", .free "zip", .int "MOST_PLANT_PLACES" 24, .free "str", .str "PLANT_WORD" "plant", .free "sum", .int "MOST_PLANT_MOVES" 200, .int "MOST_LETTERS" 4, .free "enumerate", .int "MOST_MEMORIES" 60, .str "FIGURES" "0123456789", .str "ANY" "*", .free "range", .glo "BadText", .glo "InvalidText", .free "abs", .free "max", .free "divmod", .free "sorted", .free "set", .glo "HandError", .free "repr", .free "min", .glo "is_integer"] : List He.Fa) ++ ([.glo "is_count", .glo "is_move_of", .glo "are_place_moves", .glo "are_owners_of", .glo "is_plant_of", .glo "is_any_plant", .glo "want_plant", .glo "moves_of", .glo "is_taken", .glo "are_taken", .glo "are_next", .glo "is_machine_of", .glo "is_hand_of", .glo "want_hand", .glo "lines_of", .glo "number_in", .glo "memories_in", .glo "take_in", .glo "step_in", .glo "line_in", .glo "put_first", .glo "tables_of", .glo "hand_in", .glo "hand_text", .glo "hand_of_text", .glo "_law_pot", .glo "_law_draw", .glo "_law_pick", .glo "_law_moves", .glo "_law_plant"] : List He.Fa) ++ ([.glo "_law_hand", .glo "_law_line", .glo "_law_text", .glo "_law_rows", .glo "_law_first", .glo "_law_told", .glo "_law_drawn_rows", .glo "_law_heard", .glo "_law_odd_lines", .glo "_law_wrong_right", .glo "_law_right", .glo "_law_long_right", .glo "law"] : List He.Fa)
abbrev C (K : PySem.W.Frag) (mg : PySem.Str → Option Value) (base : Heap) : Prop := Cn fa fn ex K mg base
theorem _root_.DL.Cn.sys {K : PySem.W.Frag} {mg : PySem.Str → Option Value} {base : Heap} (c : C K mg base) : sysB K = true := by
  have h := c.more
  unfold ex at h
  replace h := (Bool.and_eq_true_iff.mp h).1
  exact h
theorem _root_.DL.Cn.apart {K : PySem.W.Frag} {mg : PySem.Str → Option Value} {base : Heap} (c : C K mg base) : exmB K mX = true := by
  have h := c.more
  unfold ex at h
  replace h := (Bool.and_eq_true_iff.mp h).2
  replace h := (Bool.and_eq_true_iff.mp h).1
  exact h
theorem _root_.DL.Cn.t_BadText {K : PySem.W.Frag} {mg : PySem.Str → Option Value} {base : Heap} (c : C K mg base) : OexA K (He.ga K "BadText") := by
  have h := c.more
  unfold ex at h
  replace h := (Bool.and_eq_true_iff.mp h).2
  replace h := (Bool.and_eq_true_iff.mp h).2
  replace h := (Bool.and_eq_true_iff.mp h).1
  exact oexA_of h
theorem _root_.DL.Cn.e_BadText {K : PySem.W.Frag} {mg : PySem.Str → Option Value} {base : Heap} (c : C K mg base) : ExF K (He.ga K "BadText") := by
  have h := c.more
  unfold ex at h
  replace h := (Bool.and_eq_true_iff.mp h).2
  replace h := (Bool.and_eq_true_iff.mp h).2
  replace h := (Bool.and_eq_true_iff.mp h).2
  replace h := (Bool.and_eq_true_iff.mp h).1
  exact exF_of h
theorem _root_.DL.Cn.x_BadText {K : PySem.W.Frag} {mg : PySem.Str → Option Value} {base : Heap} (c : C K mg base) : PySem.W.exmOne K (.ref (He.ga K "BadText")) (.ref (He.ga K "BadText")) = some true := by
  have h := c.more
  unfold ex at h
  replace h := (Bool.and_eq_true_iff.mp h).2
  replace h := (Bool.and_eq_true_iff.mp h).2
  replace h := (Bool.and_eq_true_iff.mp h).2
  replace h := (Bool.and_eq_true_iff.mp h).2
  replace h := (Bool.and_eq_true_iff.mp h).1
  exact of_decide_eq_true h
theorem _root_.DL.Cn.i_BadText {K : PySem.W.Frag} {mg : PySem.Str → Option Value} {base : Heap} (c : C K mg base) : PySem.W.findIn K (.ref (He.ga K "BadText")) "__init__" = some (some (.ref (He.fAd K ("BadText", some "__init__")))) := by
  have h := c.more
  unfold ex at h
  replace h := (Bool.and_eq_true_iff.mp h).2
  replace h := (Bool.and_eq_true_iff.mp h).2
  replace h := (Bool.and_eq_true_iff.mp h).2
  replace h := (Bool.and_eq_true_iff.mp h).2
  replace h := (Bool.and_eq_true_iff.mp h).2
  replace h := (Bool.and_eq_true_iff.mp h).1
  exact of_decide_eq_true h
theorem _root_.DL.Cn.f_BadText {K : PySem.W.Frag} {mg : PySem.Str → Option Value} {base : Heap} (c : C K mg base) : PySem.W.typeIn K (.ref (He.fAd K ("BadText", some "__init__"))) = some (.type "function") := by
  have h := c.more
  unfold ex at h
  replace h := (Bool.and_eq_true_iff.mp h).2
  replace h := (Bool.and_eq_true_iff.mp h).2
  replace h := (Bool.and_eq_true_iff.mp h).2
  replace h := (Bool.and_eq_true_iff.mp h).2
  replace h := (Bool.and_eq_true_iff.mp h).2
  replace h := (Bool.and_eq_true_iff.mp h).2
  replace h := (Bool.and_eq_true_iff.mp h).1
  exact of_decide_eq_true h
theorem _root_.DL.Cn.n_BadText_line {K : PySem.W.Frag} {mg : PySem.Str → Option Value} {base : Heap} (c : C K mg base) : PySem.W.findIn K (.ref (He.ga K "BadText")) "line" = some none := by
  have h := c.more
  unfold ex at h
  replace h := (Bool.and_eq_true_iff.mp h).2
  replace h := (Bool.and_eq_true_iff.mp h).2
  replace h := (Bool.and_eq_true_iff.mp h).2
  replace h := (Bool.and_eq_true_iff.mp h).2
  replace h := (Bool.and_eq_true_iff.mp h).2
  replace h := (Bool.and_eq_true_iff.mp h).2
  replace h := (Bool.and_eq_true_iff.mp h).2
  replace h := (Bool.and_eq_true_iff.mp h).1
  exact of_decide_eq_true h
theorem _root_.DL.Cn.t_InvalidText {K : PySem.W.Frag} {mg : PySem.Str → Option Value} {base : Heap} (c : C K mg base) : OexA K (He.ga K "InvalidText") := by
  have h := c.more
  unfold ex at h
  replace h := (Bool.and_eq_true_iff.mp h).2
  replace h := (Bool.and_eq_true_iff.mp h).2
  replace h := (Bool.and_eq_true_iff.mp h).2
  replace h := (Bool.and_eq_true_iff.mp h).2
  replace h := (Bool.and_eq_true_iff.mp h).2
  replace h := (Bool.and_eq_true_iff.mp h).2
  replace h := (Bool.and_eq_true_iff.mp h).2
  replace h := (Bool.and_eq_true_iff.mp h).2
  replace h := (Bool.and_eq_true_iff.mp h).1
  exact oexA_of h
theorem _root_.DL.Cn.e_InvalidText {K : PySem.W.Frag} {mg : PySem.Str → Option Value} {base : Heap} (c : C K mg base) : ExF K (He.ga K "InvalidText") := by
  have h := c.more
  unfold ex at h
  replace h := (Bool.and_eq_true_iff.mp h).2
  replace h := (Bool.and_eq_true_iff.mp h).2
  replace h := (Bool.and_eq_true_iff.mp h).2
  replace h := (Bool.and_eq_true_iff.mp h).2
  replace h := (Bool.and_eq_true_iff.mp h).2
  replace h := (Bool.and_eq_true_iff.mp h).2
  replace h := (Bool.and_eq_true_iff.mp h).2
  replace h := (Bool.and_eq_true_iff.mp h).2
  replace h := (Bool.and_eq_true_iff.mp h).2
  replace h := (Bool.and_eq_true_iff.mp h).1
  exact exF_of h
theorem _root_.DL.Cn.x_InvalidText {K : PySem.W.Frag} {mg : PySem.Str → Option Value} {base : Heap} (c : C K mg base) : PySem.W.exmOne K (.ref (He.ga K "InvalidText")) (.ref (He.ga K "InvalidText")) = some true := by
  have h := c.more
  unfold ex at h
  replace h := (Bool.and_eq_true_iff.mp h).2
  replace h := (Bool.and_eq_true_iff.mp h).2
  replace h := (Bool.and_eq_true_iff.mp h).2
  replace h := (Bool.and_eq_true_iff.mp h).2
  replace h := (Bool.and_eq_true_iff.mp h).2
  replace h := (Bool.and_eq_true_iff.mp h).2
  replace h := (Bool.and_eq_true_iff.mp h).2
  replace h := (Bool.and_eq_true_iff.mp h).2
  replace h := (Bool.and_eq_true_iff.mp h).2
  replace h := (Bool.and_eq_true_iff.mp h).2
  replace h := (Bool.and_eq_true_iff.mp h).1
  exact of_decide_eq_true h
theorem _root_.DL.Cn.i_InvalidText {K : PySem.W.Frag} {mg : PySem.Str → Option Value} {base : Heap} (c : C K mg base) : PySem.W.findIn K (.ref (He.ga K "InvalidText")) "__init__" = some (some (.ref (He.fAd K ("HandError", some "__init__")))) := by
  have h := c.more
  unfold ex at h
  replace h := (Bool.and_eq_true_iff.mp h).2
  replace h := (Bool.and_eq_true_iff.mp h).2
  replace h := (Bool.and_eq_true_iff.mp h).2
  replace h := (Bool.and_eq_true_iff.mp h).2
  replace h := (Bool.and_eq_true_iff.mp h).2
  replace h := (Bool.and_eq_true_iff.mp h).2
  replace h := (Bool.and_eq_true_iff.mp h).2
  replace h := (Bool.and_eq_true_iff.mp h).2
  replace h := (Bool.and_eq_true_iff.mp h).2
  replace h := (Bool.and_eq_true_iff.mp h).2
  replace h := (Bool.and_eq_true_iff.mp h).2
  replace h := (Bool.and_eq_true_iff.mp h).1
  exact of_decide_eq_true h
theorem _root_.DL.Cn.f_InvalidText {K : PySem.W.Frag} {mg : PySem.Str → Option Value} {base : Heap} (c : C K mg base) : PySem.W.typeIn K (.ref (He.fAd K ("HandError", some "__init__"))) = some (.type "function") := by
  have h := c.more
  unfold ex at h
  replace h := (Bool.and_eq_true_iff.mp h).2
  replace h := (Bool.and_eq_true_iff.mp h).2
  replace h := (Bool.and_eq_true_iff.mp h).2
  replace h := (Bool.and_eq_true_iff.mp h).2
  replace h := (Bool.and_eq_true_iff.mp h).2
  replace h := (Bool.and_eq_true_iff.mp h).2
  replace h := (Bool.and_eq_true_iff.mp h).2
  replace h := (Bool.and_eq_true_iff.mp h).2
  replace h := (Bool.and_eq_true_iff.mp h).2
  replace h := (Bool.and_eq_true_iff.mp h).2
  replace h := (Bool.and_eq_true_iff.mp h).2
  replace h := (Bool.and_eq_true_iff.mp h).2
  replace h := (Bool.and_eq_true_iff.mp h).1
  exact of_decide_eq_true h
theorem _root_.DL.Cn.n_InvalidText_value {K : PySem.W.Frag} {mg : PySem.Str → Option Value} {base : Heap} (c : C K mg base) : PySem.W.findIn K (.ref (He.ga K "InvalidText")) "value" = some none := by
  have h := c.more
  unfold ex at h
  replace h := (Bool.and_eq_true_iff.mp h).2
  replace h := (Bool.and_eq_true_iff.mp h).2
  replace h := (Bool.and_eq_true_iff.mp h).2
  replace h := (Bool.and_eq_true_iff.mp h).2
  replace h := (Bool.and_eq_true_iff.mp h).2
  replace h := (Bool.and_eq_true_iff.mp h).2
  replace h := (Bool.and_eq_true_iff.mp h).2
  replace h := (Bool.and_eq_true_iff.mp h).2
  replace h := (Bool.and_eq_true_iff.mp h).2
  replace h := (Bool.and_eq_true_iff.mp h).2
  replace h := (Bool.and_eq_true_iff.mp h).2
  replace h := (Bool.and_eq_true_iff.mp h).2
  replace h := (Bool.and_eq_true_iff.mp h).2
  replace h := (Bool.and_eq_true_iff.mp h).1
  exact of_decide_eq_true h
theorem _root_.DL.Cn.k_BadText_HandError {K : PySem.W.Frag} {mg : PySem.Str → Option Value} {base : Heap} (c : C K mg base) : PySem.W.kitOne K (.ref (He.ga K "BadText")) (.ref (He.ga K "HandError")) = some true := by
  have h := c.more
  unfold ex at h
  replace h := (Bool.and_eq_true_iff.mp h).2
  replace h := (Bool.and_eq_true_iff.mp h).2
  replace h := (Bool.and_eq_true_iff.mp h).2
  replace h := (Bool.and_eq_true_iff.mp h).2
  replace h := (Bool.and_eq_true_iff.mp h).2
  replace h := (Bool.and_eq_true_iff.mp h).2
  replace h := (Bool.and_eq_true_iff.mp h).2
  replace h := (Bool.and_eq_true_iff.mp h).2
  replace h := (Bool.and_eq_true_iff.mp h).2
  replace h := (Bool.and_eq_true_iff.mp h).2
  replace h := (Bool.and_eq_true_iff.mp h).2
  replace h := (Bool.and_eq_true_iff.mp h).2
  replace h := (Bool.and_eq_true_iff.mp h).2
  replace h := (Bool.and_eq_true_iff.mp h).2
  replace h := (Bool.and_eq_true_iff.mp h).1
  exact of_decide_eq_true h
theorem _root_.DL.Cn.k_InvalidText_HandError {K : PySem.W.Frag} {mg : PySem.Str → Option Value} {base : Heap} (c : C K mg base) : PySem.W.kitOne K (.ref (He.ga K "InvalidText")) (.ref (He.ga K "HandError")) = some true := by
  have h := c.more
  unfold ex at h
  replace h := (Bool.and_eq_true_iff.mp h).2
  replace h := (Bool.and_eq_true_iff.mp h).2
  replace h := (Bool.and_eq_true_iff.mp h).2
  replace h := (Bool.and_eq_true_iff.mp h).2
  replace h := (Bool.and_eq_true_iff.mp h).2
  replace h := (Bool.and_eq_true_iff.mp h).2
  replace h := (Bool.and_eq_true_iff.mp h).2
  replace h := (Bool.and_eq_true_iff.mp h).2
  replace h := (Bool.and_eq_true_iff.mp h).2
  replace h := (Bool.and_eq_true_iff.mp h).2
  replace h := (Bool.and_eq_true_iff.mp h).2
  replace h := (Bool.and_eq_true_iff.mp h).2
  replace h := (Bool.and_eq_true_iff.mp h).2
  replace h := (Bool.and_eq_true_iff.mp h).2
  replace h := (Bool.and_eq_true_iff.mp h).2
  replace h := (Bool.and_eq_true_iff.mp h).1
  exact of_decide_eq_true h
theorem scI_BadText : FnScope ["self", "line"] ["self", "line"] dI_BadText.scope := ⟨rfl, rfl, rfl, by decide +kernel, rfl, by decide +kernel, by decide +kernel⟩
theorem okI_BadText {P : Program} {w : World} {K : PySem.W.Frag} {mg : PySem.Str → Option Value} {base : Heap} (c : C K mg base) : FnOk P w K mg base (fun _ _ _ _ _ _ => False) 1 (He.fAd K dI_BadText.at_) (c.says.def_ 44 (d := dI_BadText) rfl).choose ["self", "line"] (spI1 (He.ga K "BadText") "line") :=
  FunD.ok (c.says.def_ 44 (d := dI_BadText) rfl).choose_spec scI_BadText (fun vs H Q E h => by obtain ⟨a, v, rfl, _⟩ := h; rfl) fun cdv A outer s H vs Q E hr h =>
    ⟨_, PSs.nox (pss_one (ps_ostA (pe_var (i := 0) rfl (Or.inl rfl)) (pe_var (i := 1) rfl (Or.inl rfl)))), pure_i1 c.t_BadText c.n_BadText_line vs H Q E h⟩
theorem bI_BadText {K : PySem.W.Frag} {mg : PySem.Str → Option Value} {base : Heap} (c : C K mg base) : L2.Binds K (c.says.def_ 44 (d := dI_BadText) rfl).choose ["self", "line"] [] :=
  (c.says.def_ 44 (d := dI_BadText) rfl).choose_spec.bindsN fun _ _ _ _ _ _ us hl => match us, hl with | [_, _], _ => rfl
theorem scI_HandError : FnScope ["self", "value"] ["self", "value"] dI_HandError.scope := ⟨rfl, rfl, rfl, by decide +kernel, rfl, by decide +kernel, by decide +kernel⟩
theorem okI_InvalidText {P : Program} {w : World} {K : PySem.W.Frag} {mg : PySem.Str → Option Value} {base : Heap} (c : C K mg base) : FnOk P w K mg base (fun _ _ _ _ _ _ => False) 1 (He.fAd K dI_HandError.at_) (c.says.def_ 45 (d := dI_HandError) rfl).choose ["self", "value"] (spI1 (He.ga K "InvalidText") "value") :=
  FunD.ok (c.says.def_ 45 (d := dI_HandError) rfl).choose_spec scI_HandError (fun vs H Q E h => by obtain ⟨a, v, rfl, _⟩ := h; rfl) fun cdv A outer s H vs Q E hr h =>
    ⟨_, PSs.nox (pss_one (ps_ostA (pe_var (i := 0) rfl (Or.inl rfl)) (pe_var (i := 1) rfl (Or.inl rfl)))), pure_i1 c.t_InvalidText c.n_InvalidText_value vs H Q E h⟩
theorem bI_InvalidText {K : PySem.W.Frag} {mg : PySem.Str → Option Value} {base : Heap} (c : C K mg base) : L2.Binds K (c.says.def_ 45 (d := dI_HandError) rfl).choose ["self", "value"] [] :=
  binds_def (c.says.def_ 45 (d := dI_HandError) rfl).choose_spec (by intro e; cases e) (n := 2) rfl fun T kV doc pm an cdv ct us its hl hi => match us, its, hl, hi with | [_, _], [_], _, _ => ⟨_, rfl, rfl⟩
theorem bp_is_integer : BindsP d_is_integer ["value"] := fun _ _ _ _ _ _ us hl => match us, hl with | [_], _ => rfl
theorem bp_is_count : BindsP d_is_count ["value"] := fun _ _ _ _ _ _ us hl => match us, hl with | [_], _ => rfl
theorem bp_is_move_of : BindsP d_is_move_of ["letters", "places", "value"] := fun _ _ _ _ _ _ us hl => match us, hl with | [_, _, _], _ => rfl
theorem bp_are_place_moves : BindsP d_are_place_moves ["letters", "places", "value"] := fun _ _ _ _ _ _ us hl => match us, hl with | [_, _, _], _ => rfl
theorem bp_are_owners_of : BindsP d_are_owners_of ["value"] := fun _ _ _ _ _ _ us hl => match us, hl with | [_], _ => rfl
theorem bp_is_plant_of : BindsP d_is_plant_of ["letters", "value"] := fun _ _ _ _ _ _ us hl => match us, hl with | [_, _], _ => rfl
theorem bp_is_any_plant : BindsP d_is_any_plant ["value"] := fun _ _ _ _ _ _ us hl => match us, hl with | [_], _ => rfl
theorem bp_want_plant : BindsP d_want_plant ["value"] := fun _ _ _ _ _ _ us hl => match us, hl with | [_], _ => rfl
theorem bp_moves_of : BindsP d_moves_of ["plant"] := fun _ _ _ _ _ _ us hl => match us, hl with | [_], _ => rfl
theorem bp_is_taken : BindsP d_is_taken ["plant", "side", "place", "value"] := fun _ _ _ _ _ _ us hl => match us, hl with | [_, _, _, _], _ => rfl
theorem bp_are_taken : BindsP d_are_taken ["plant", "side", "value"] := fun _ _ _ _ _ _ us hl => match us, hl with | [_, _, _], _ => rfl
theorem bp_are_next : BindsP d_are_next ["moves", "many", "value"] := fun _ _ _ _ _ _ us hl => match us, hl with | [_, _, _], _ => rfl
theorem bp_is_machine_of : BindsP d_is_machine_of ["plant", "word", "side", "most", "value"] := fun _ _ _ _ _ _ us hl => match us, hl with | [_, _, _, _, _], _ => rfl
theorem bp_is_hand_of : BindsP d_is_hand_of ["plant", "value"] := fun _ _ _ _ _ _ us hl => match us, hl with | [_, _], _ => rfl
theorem bp_want_hand : BindsP d_want_hand ["plant", "value"] := fun _ _ _ _ _ _ us hl => match us, hl with | [_, _], _ => rfl
theorem bp_lines_of : BindsP d_lines_of ["plant", "hand"] := fun _ _ _ _ _ _ us hl => match us, hl with | [_, _], _ => rfl
theorem bp_number_in : BindsP d_number_in ["word", "most"] := fun _ _ _ _ _ _ us hl => match us, hl with | [_, _], _ => rfl
theorem bp_memories_in : BindsP d_memories_in ["line"] := fun _ _ _ _ _ _ us hl => match us, hl with | [_], _ => rfl
theorem bp_take_in : BindsP d_take_in ["plant", "near", "far"] := fun _ _ _ _ _ _ us hl => match us, hl with | [_, _, _], _ => rfl
theorem bp_step_in : BindsP d_step_in ["plant", "many", "near", "far"] := fun _ _ _ _ _ _ us hl => match us, hl with | [_, _, _, _], _ => rfl
theorem bp_line_in : BindsP d_line_in ["plant", "many", "line"] := fun _ _ _ _ _ _ us hl => match us, hl with | [_, _, _], _ => rfl
theorem bp_put_first : BindsP d_put_first ["table", "keys", "thing"] := fun _ _ _ _ _ _ us hl => match us, hl with | [_, _, _], _ => rfl
theorem bp_tables_of : BindsP d_tables_of ["plant", "many", "rows"] := fun _ _ _ _ _ _ us hl => match us, hl with | [_, _, _], _ => rfl
theorem bp_hand_in : BindsP d_hand_in ["plant", "text"] := fun _ _ _ _ _ _ us hl => match us, hl with | [_, _], _ => rfl
theorem bp_hand_text : BindsP d_hand_text ["plant", "hand"] := fun _ _ _ _ _ _ us hl => match us, hl with | [_, _], _ => rfl
theorem bp_hand_of_text : BindsP d_hand_of_text ["plant", "text"] := fun _ _ _ _ _ _ us hl => match us, hl with | [_, _], _ => rfl
theorem bp__law_pot : BindsP d__law_pot ["script", "k"] := fun _ _ _ _ _ _ us hl => match us, hl with | [_, _], _ => rfl
theorem bp__law_draw : BindsP d__law_draw ["pot", "many"] := fun _ _ _ _ _ _ us hl => match us, hl with | [_, _], _ => rfl
theorem bp__law_pick : BindsP d__law_pick ["pot", "some"] := fun _ _ _ _ _ _ us hl => match us, hl with | [_, _], _ => rfl
theorem bp__law_moves : BindsP d__law_moves ["plant"] := fun _ _ _ _ _ _ us hl => match us, hl with | [_], _ => rfl
theorem bp__law_plant : BindsP d__law_plant ["pot", "letters", "places"] := fun _ _ _ _ _ _ us hl => match us, hl with | [_, _, _], _ => rfl
theorem bp__law_hand : BindsP d__law_hand ["pot", "plant", "memories"] := fun _ _ _ _ _ _ us hl => match us, hl with | [_, _, _], _ => rfl
theorem bp__law_line : BindsP d__law_line ["row"] := fun _ _ _ _ _ _ us hl => match us, hl with | [_], _ => rfl
theorem bp__law_text : BindsP d__law_text ["many", "rows"] := fun _ _ _ _ _ _ us hl => match us, hl with | [_, _], _ => rfl
theorem bp__law_rows : BindsP d__law_rows ["hand"] := fun _ _ _ _ _ _ us hl => match us, hl with | [_], _ => rfl
theorem bp__law_first : BindsP d__law_first ["rows", "kind", "memory", "near", "other"] := fun _ _ _ _ _ _ us hl => match us, hl with | [_, _, _, _, _], _ => rfl
theorem bp__law_told : BindsP d__law_told ["plant", "many", "rows"] := fun _ _ _ _ _ _ us hl => match us, hl with | [_, _, _], _ => rfl
theorem bp__law_drawn_rows : BindsP d__law_drawn_rows ["pot", "plant", "many"] := fun _ _ _ _ _ _ us hl => match us, hl with | [_, _, _], _ => rfl
theorem bp__law_heard : BindsP d__law_heard ["plant", "text"] := fun _ _ _ _ _ _ us hl => match us, hl with | [_, _], _ => rfl
theorem bp__law_odd_lines : BindsP d__law_odd_lines ["pot", "plant", "many"] := fun _ _ _ _ _ _ us hl => match us, hl with | [_, _, _], _ => rfl
theorem bp__law_wrong_right : BindsP d__law_wrong_right ["pot", "plant", "many", "rows"] := fun _ _ _ _ _ _ us hl => match us, hl with | [_, _, _, _], _ => rfl
theorem bp__law_right : BindsP d__law_right ["pot"] := fun _ _ _ _ _ _ us hl => match us, hl with | [_], _ => rfl
theorem bp__law_long_right : BindsP d__law_long_right ["pot"] := fun _ _ _ _ _ _ us hl => match us, hl with | [_], _ => rfl
theorem bp_law : BindsP d_law ["script"] := fun _ _ _ _ _ _ us hl => match us, hl with | [_], _ => rfl
theorem bk_hand_of_text_10 : BindsK d_hand_of_text ["plant", "text"] ["text", "plant"] [1, 0] := fun _ _ _ _ _ _ ws hl => match ws, hl with | [_, _], _ => ⟨rfl, rfl⟩
theorem bk_hand_text_10 : BindsK d_hand_text ["plant", "hand"] ["hand", "plant"] [1, 0] := fun _ _ _ _ _ _ ws hl => match ws, hl with | [_, _], _ => ⟨rfl, rfl⟩
theorem sc_is_integer : FnScope ["value"] ["value"] d_is_integer.scope := ⟨rfl, rfl, rfl, by decide +kernel, rfl, by decide +kernel, by decide +kernel⟩
def g_is_integer : Es := sRt (eAnd (eFn (bIsi .int) (aCons (eVb 0) (aCons (eTy .int) (aNil)))) (eNot (eFn (bIsi .bl) (aCons (eVb 0) (aCons (eTy .bl) (aNil))))))
def F_is_integer : Fn := fnOf 1 g_is_integer
theorem ok_is_integer {P : Program} {w : World} {K : PySem.W.Frag} {mg : PySem.Str → Option Value} {base : Heap} (c : C K mg base) : OkD P w K mg base d_is_integer ["value"] 1 F_is_integer :=
  OkD.mk (N := ["value"]) (f := He.ga K "is_integer") (fd := (c.says.def_ 0 (d := d_is_integer) rfl).choose) (g := g_is_integer) (c.glo 29 rfl) (c.says.def_ 0 (d := d_is_integer) rfl).choose_spec sc_is_integer fun cdv A outer s H E B hr hgd =>
    have hu0 := hr.units0; have hu := hr.units; have hu1 := u1_of hr; have hu65 := u65_of hr
    dss_one (ds_ret (de_and (de_bi call_isi (cb_isi .int) rfl (c.free 0 rfl) bo_isinstance (dab_cons (db_v 0) (dab_cons (db_ty .int rfl (c.free 1 rfl) bo_int) (dab_nil)))) (de_one (de_not (de_bi call_isi (cb_isi .bl) rfl (c.free 0 rfl) bo_isinstance (dab_cons (db_v 0) (dab_cons (db_ty .bl rfl (c.free 2 rfl) bo_bool) (dab_nil))))))))
theorem sc_is_count : FnScope ["value"] ["value"] d_is_count.scope := ⟨rfl, rfl, rfl, by decide +kernel, rfl, by decide +kernel, by decide +kernel⟩
def g_is_count : Es := sRt (eAnd (eCall F_is_integer (aCons (eV 0) (aNil))) (eBin2 oGe (eVb 0) (eC (.int 0))))
def F_is_count : Fn := fnOf 1 g_is_count
theorem ok_is_count {P : Program} {w : World} {K : PySem.W.Frag} {mg : PySem.Str → Option Value} {base : Heap} (c : C K mg base) : OkD P w K mg base d_is_count ["value"] 2 F_is_count :=
  OkD.mk (N := ["value"]) (f := He.ga K "is_count") (fd := (c.says.def_ 1 (d := d_is_count) rfl).choose) (g := g_is_count) (c.glo 30 rfl) (c.says.def_ 1 (d := d_is_count) rfl).choose_spec sc_is_count fun cdv A outer s H E B hr hgd =>
    have hu0 := hr.units0; have hu := hr.units; have hu1 := u1_of hr; have hu65 := u65_of hr
    dss_one (ds_ret (de_and (de_call (ok_is_integer c) bp_is_integer (hr.mono (by decide)) hgd (takes_of rfl rfl rfl rfl) (da_cons (de_v 0) (da_nil)) (ALen.cons (ALen.nil)) rfl) (de_one (de_cmp2 op_ge opb_ge (db_v 0) (db_of (de_int))))))
theorem sc_is_move_of : FnScope ["letters", "places", "value"] ["letters", "places", "value"] d_is_move_of.scope := ⟨rfl, rfl, rfl, by decide +kernel, rfl, by decide +kernel, by decide +kernel⟩
def g_is_move_of : Es := sSeq (sIf (bOr (bNot (toB (eFn (bIsi .tup) (aCons (eVb 2) (aCons (eTy .tup) (aNil)))))) (bOr (toB (eBin2 oNe (eFn bLen (aCons (eVb 2) (aNil))) (eC (.int 2)))) (bOr (bNot (toB (eCall F_is_count (aCons (eBin2 oIx (eVb 2) (eC (.int 0))) (aNil))))) (bNot (toB (eCall F_is_count (aCons (eBin2 oIx (eVb 2) (eC (.int 1))) (aNil)))))))) (sRt (eC (.bl false))) (sNx)) (sRt (eAnd (eBin2 oLt (eBin2 oIx (eVb 2) (eC (.int 0))) (eVb 0)) (eBin2 oLt (eBin2 oIx (eVb 2) (eC (.int 1))) (eVb 1))))
def F_is_move_of : Fn := fnOf 3 g_is_move_of
theorem ok_is_move_of {P : Program} {w : World} {K : PySem.W.Frag} {mg : PySem.Str → Option Value} {base : Heap} (c : C K mg base) : OkD P w K mg base d_is_move_of ["letters", "places", "value"] 3 F_is_move_of :=
  OkD.mk (N := ["letters", "places", "value"]) (f := He.ga K "is_move_of") (fd := (c.says.def_ 2 (d := d_is_move_of) rfl).choose) (g := g_is_move_of) (c.glo 31 rfl) (c.says.def_ 2 (d := d_is_move_of) rfl).choose_spec sc_is_move_of fun cdv A outer s H E B hr hgd =>
    have hu0 := hr.units0; have hu := hr.units; have hu1 := u1_of hr; have hu65 := u65_of hr
    dss_cons (ds_if (dt_w (dw_or (dt_not (dt_val (de_bi call_isi (cb_isi .tup) rfl (c.free 0 rfl) bo_isinstance (dab_cons (db_v 2) (dab_cons (db_ty .tup rfl (c.free 3 rfl) bo_tuple) (dab_nil)))))) (dw_or (dt_cmp2 (op_ne.or (op_neD hu)) opb_ne (db_of (de_bi call_len cb_len rfl (c.free 4 rfl) bo_len (dab_cons (db_v 2) (dab_nil)))) (db_of (de_int))) (dw_or (dt_not (dt_val (de_call (ok_is_count c) bp_is_count (hr.mono (by decide)) hgd (takes_of rfl rfl rfl rfl) (da_cons (de_ix (db_v 2) (db_of (de_int))) (da_nil)) (ALen.cons (ALen.nil)) rfl))) (dw_or1 (dt_not (dt_val (de_call (ok_is_count c) bp_is_count (hr.mono (by decide)) hgd (takes_of rfl rfl rfl rfl) (da_cons (de_ix (db_v 2) (db_of (de_int))) (da_nil)) (ALen.cons (ALen.nil)) rfl)))))))) (dss_one (ds_ret (de_bl))) (dss_nil)) (dss_one (ds_ret (de_and (de_cmp2 (op_lt.or (op_ltT hu0)) opb_lt (db_of (de_ix (db_v 2) (db_of (de_int)))) (db_v 0)) (de_one (de_cmp2 (op_lt.or (op_ltT hu0)) opb_lt (db_of (de_ix (db_v 2) (db_of (de_int)))) (db_v 1))))))
theorem sc_are_place_moves : FnScope ["letters", "places", "value", "near", "far", "move"] ["letters", "places", "value"] d_are_place_moves.scope := ⟨rfl, rfl, rfl, by decide +kernel, rfl, by decide +kernel, by decide +kernel⟩
def lt1_are_place_moves : Tgt := gV 5
def lf1_are_place_moves : Ev D := eCall F_is_move_of (aCons (eV 0) (aCons (eV 1) (aCons (eV 5) (aNil))))
def lt2_are_place_moves : Tgt := gT 2 (gConsR (gV 3) (gConsR (gV 4) (gNilR))) ((gV 3).ix ++ ((gV 4).ix ++ []))
def lf2_are_place_moves : Ev D := eBin2 oLt (eVb 3) (eVb 4)
def g_are_place_moves : Es := sSeq (sIf (bOr (bNot (toB (eFn (bIsi .tup) (aCons (eVb 2) (aCons (eTy .tup) (aNil)))))) (bNot (bCh oLe oLe (eC (.int 1)) (eFn bLen (aCons (eVb 2) (aNil))) (eC (.int 24))))) (sRt (eC (.bl false))) (sNx)) (sSeq (sIf (bNot (toB (eFn bAll (aCons (eFrz (nLc (iSeq (eV 2)) [5] (lt1_are_place_moves) (bYes) (lf1_are_place_moves))) (aNil))))) (sRt (eC (.bl false))) (sNx)) (sRt (eFn bAll (aCons (eFrz (nLc (iVia zipD (aCons (eV 2) (aCons (eSl (eVb 2) (pAt (eC (.int 1))) (pNo)) (aNil)))) [3, 4] (lt2_are_place_moves) (bYes) (lf2_are_place_moves))) (aNil)))))
def F_are_place_moves : Fn := fnOf 6 g_are_place_moves
theorem ok_are_place_moves {P : Program} {w : World} {K : PySem.W.Frag} {mg : PySem.Str → Option Value} {base : Heap} (c : C K mg base) : OkD P w K mg base d_are_place_moves ["letters", "places", "value"] 4 F_are_place_moves :=
  OkD.mk (N := ["letters", "places", "value", "near", "far", "move"]) (f := He.ga K "are_place_moves") (fd := (c.says.def_ 3 (d := d_are_place_moves) rfl).choose) (g := g_are_place_moves) (c.glo 32 rfl) (c.says.def_ 3 (d := d_are_place_moves) rfl).choose_spec sc_are_place_moves fun cdv A outer s H E B hr hgd =>
    have hu0 := hr.units0; have hu := hr.units; have hu1 := u1_of hr; have hu65 := u65_of hr
    dss_cons (ds_if (dt_w (dw_or (dt_not (dt_val (de_bi call_isi (cb_isi .tup) rfl (c.free 0 rfl) bo_isinstance (dab_cons (db_v 2) (dab_cons (db_ty .tup rfl (c.free 3 rfl) bo_tuple) (dab_nil)))))) (dw_or1 (dt_not (dt_ch op_le op_le opb_le opb_le (db_of (de_int)) (db_of (de_bi call_len cb_len rfl (c.free 4 rfl) bo_len (dab_cons (db_v 2) (dab_nil)))) (db_of (de_gi (c.int 5 rfl) rfl))))))) (dss_one (ds_ret (de_bl))) (dss_nil)) (dss_cons (ds_if (dt_not (dt_val (de_bi (cr_all rfl) cb_all rfl (c.free 6 rfl) bo_all (dab_cons (db_of (de_frz (dn_lc [("move", 5)] rfl sc_are_place_moves.nd (dj_of (di_seq (de_v 2))) (blk_of (N := ["letters", "places", "value", "near", "far", "move"]) (sc := d_are_place_moves.scope) (by decide +kernel)) (by decide) (fun _ _ _ _ _ => dg_v 5 sc_are_place_moves.nd) (fun _ _ _ _ _ => dts_nil) (fun _ _ _ _ _ => de_call (ok_is_move_of c) bp_is_move_of (hr.mono (by decide)) hgd takes0 (da_cons (de_v 0) (da_cons (de_v 1) (da_cons (de_v 5) (da_nil)))) (ALen.cons (ALen.cons (ALen.cons (ALen.nil)))) rfl)))) (dab_nil))))) (dss_one (ds_ret (de_bl))) (dss_nil)) (dss_one (ds_ret (de_bi (cr_all rfl) cb_all rfl (c.free 6 rfl) bo_all (dab_cons (db_of (de_frz (dn_lc [("near", 3), ("far", 4)] rfl sc_are_place_moves.nd (dj_of (di_zip (da_cons (de_v 2) (da_cons (de_sl (db_v 2) (do_at (db_of (de_int))) (do_no)) (da_nil))) rfl (c.free 7 rfl))) (blk_of (N := ["letters", "places", "value", "near", "far", "move"]) (sc := d_are_place_moves.scope) (by decide +kernel)) (by decide) (fun _ _ _ _ _ => dg_t rfl (dgs_cons (dg_v 3 sc_are_place_moves.nd) (dgs_cons (dg_v 4 sc_are_place_moves.nd) (dgs_nil)))) (fun _ _ _ _ _ => dts_nil) (fun _ _ _ _ _ => de_cmp2 (op_lt.or (op_ltT hu0)) opb_lt (db_v 3) (db_v 4))))) (dab_nil))))))
theorem sc_are_owners_of : FnScope ["value", "owner"] ["value"] d_are_owners_of.scope := ⟨rfl, rfl, rfl, by decide +kernel, rfl, by decide +kernel, by decide +kernel⟩
def lt1_are_owners_of : Tgt := gV 1
def lf1_are_owners_of : Ev D := eAnd (eCall F_is_count (aCons (eV 1) (aNil))) (eBin2 oLt (eVb 1) (eC (.int 2)))
def g_are_owners_of : Es := sSeq (sIf (bOr (bNot (toB (eFn (bIsi .tup) (aCons (eVb 0) (aCons (eTy .tup) (aNil)))))) (bNot (bCh oLe oLe (eC (.int 1)) (eFn bLen (aCons (eVb 0) (aNil))) (eC (.int 24))))) (sRt (eC (.bl false))) (sNx)) (sRt (eFn bAll (aCons (eFrz (nLc (iSeq (eV 0)) [1] (lt1_are_owners_of) (bYes) (lf1_are_owners_of))) (aNil))))
def F_are_owners_of : Fn := fnOf 2 g_are_owners_of
theorem ok_are_owners_of {P : Program} {w : World} {K : PySem.W.Frag} {mg : PySem.Str → Option Value} {base : Heap} (c : C K mg base) : OkD P w K mg base d_are_owners_of ["value"] 3 F_are_owners_of :=
  OkD.mk (N := ["value", "owner"]) (f := He.ga K "are_owners_of") (fd := (c.says.def_ 4 (d := d_are_owners_of) rfl).choose) (g := g_are_owners_of) (c.glo 33 rfl) (c.says.def_ 4 (d := d_are_owners_of) rfl).choose_spec sc_are_owners_of fun cdv A outer s H E B hr hgd =>
    have hu0 := hr.units0; have hu := hr.units; have hu1 := u1_of hr; have hu65 := u65_of hr
    dss_cons (ds_if (dt_w (dw_or (dt_not (dt_val (de_bi call_isi (cb_isi .tup) rfl (c.free 0 rfl) bo_isinstance (dab_cons (db_v 0) (dab_cons (db_ty .tup rfl (c.free 3 rfl) bo_tuple) (dab_nil)))))) (dw_or1 (dt_not (dt_ch op_le op_le opb_le opb_le (db_of (de_int)) (db_of (de_bi call_len cb_len rfl (c.free 4 rfl) bo_len (dab_cons (db_v 0) (dab_nil)))) (db_of (de_gi (c.int 8 rfl) rfl))))))) (dss_one (ds_ret (de_bl))) (dss_nil)) (dss_one (ds_ret (de_bi (cr_all rfl) cb_all rfl (c.free 6 rfl) bo_all (dab_cons (db_of (de_frz (dn_lc [("owner", 1)] rfl sc_are_owners_of.nd (dj_of (di_seq (de_v 0))) (blk_of (N := ["value", "owner"]) (sc := d_are_owners_of.scope) (by decide +kernel)) (by decide) (fun _ _ _ _ _ => dg_v 1 sc_are_owners_of.nd) (fun _ _ _ _ _ => dts_nil) (fun _ _ _ _ _ => de_and (de_call (ok_is_count c) bp_is_count (hr.mono (by decide)) hgd takes0 (da_cons (de_v 1) (da_nil)) (ALen.cons (ALen.nil)) rfl) (de_one (de_cmp2 (op_lt.or (op_ltT hu0)) opb_lt (db_v 1) (db_of (de_int)))))))) (dab_nil)))))
theorem sc_is_plant_of : FnScope ["letters", "value", "word", "told", "owners", "moves", "row"] ["letters", "value"] d_is_plant_of.scope := ⟨rfl, rfl, rfl, by decide +kernel, rfl, by decide +kernel, by decide +kernel⟩
def lt1_is_plant_of : Tgt := gV 6
def lf1_is_plant_of : Ev D := eCall F_are_place_moves (aCons (eV 0) (aCons (eFn bLen (aCons (eVb 4) (aNil))) (aCons (eV 6) (aNil))))
def lt2_is_plant_of : Tgt := gV 6
def lf2_is_plant_of : Ev D := eFn bLen (aCons (eVb 6) (aNil))
def g_is_plant_of : Es := sSeq (sIf (bOr (bNot (toB (eFn (bIsi .tup) (aCons (eVb 1) (aCons (eTy .tup) (aNil)))))) (bOr (toB (eBin2 oNe (eFn bLen (aCons (eVb 1) (aNil))) (eC (.int 4)))) (bOr (bNot (toB (eFn (bIsi .str) (aCons (eBin2 oIx (eVb 1) (eC (.int 0))) (aCons (eTy .str) (aNil)))))) (toB (eBin2 oNe (eBin2 oIx (eVb 1) (eC (.int 0))) (eC (.str "plant"))))))) (sRt (eC (.bl false))) (sNx)) (sSeq (sUnp (gT 4 (gConsR (gV 2) (gConsR (gV 3) (gConsR (gV 4) (gConsR (gV 5) (gNilR))))) ((gV 2).ix ++ ((gV 3).ix ++ ((gV 4).ix ++ ((gV 5).ix ++ []))))) (eV 1)) (sSeq (sIf (bOr (bNot (toB (eCall F_is_count (aCons (eV 3) (aNil))))) (bOr (toB (eBin2 oNe (eVb 3) (eVb 0))) (bNot (toB (eCall F_are_owners_of (aCons (eV 4) (aNil))))))) (sRt (eC (.bl false))) (sNx)) (sSeq (sIf (bOr (bNot (toB (eFn (bIsi .tup) (aCons (eVb 5) (aCons (eTy .tup) (aNil)))))) (toB (eBin2 oNe (eFn bLen (aCons (eVb 5) (aNil))) (eFn bLen (aCons (eVb 4) (aNil)))))) (sRt (eC (.bl false))) (sNx)) (sSeq (sIf (bNot (toB (eFn bAll (aCons (eFrz (nLc (iSeq (eV 5)) [6] (lt1_is_plant_of) (bYes) (lf1_is_plant_of))) (aNil))))) (sRt (eC (.bl false))) (sNx)) (sRt (eBin2 oLe (eFn bSum (aCons (eFrz (nLc (iSeq (eV 5)) [6] (lt2_is_plant_of) (bYes) (lf2_is_plant_of))) (aNil))) (eC (.int 200))))))))
def F_is_plant_of : Fn := fnOf 7 g_is_plant_of
theorem ok_is_plant_of {P : Program} {w : World} {K : PySem.W.Frag} {mg : PySem.Str → Option Value} {base : Heap} (c : C K mg base) : OkD P w K mg base d_is_plant_of ["letters", "value"] 5 F_is_plant_of :=
  OkD.mk (N := ["letters", "value", "word", "told", "owners", "moves", "row"]) (f := He.ga K "is_plant_of") (fd := (c.says.def_ 5 (d := d_is_plant_of) rfl).choose) (g := g_is_plant_of) (c.glo 34 rfl) (c.says.def_ 5 (d := d_is_plant_of) rfl).choose_spec sc_is_plant_of fun cdv A outer s H E B hr hgd =>
    have hu0 := hr.units0; have hu := hr.units; have hu1 := u1_of hr; have hu65 := u65_of hr
    dss_cons (ds_if (dt_w (dw_or (dt_not (dt_val (de_bi call_isi (cb_isi .tup) rfl (c.free 0 rfl) bo_isinstance (dab_cons (db_v 1) (dab_cons (db_ty .tup rfl (c.free 3 rfl) bo_tuple) (dab_nil)))))) (dw_or (dt_cmp2 (op_ne.or (op_neD hu)) opb_ne (db_of (de_bi call_len cb_len rfl (c.free 4 rfl) bo_len (dab_cons (db_v 1) (dab_nil)))) (db_of (de_int))) (dw_or (dt_not (dt_val (de_bi call_isi (cb_isi .str) rfl (c.free 0 rfl) bo_isinstance (dab_cons (db_of (de_ix (db_v 1) (db_of (de_int)))) (dab_cons (db_ty .str rfl (c.free 9 rfl) bo_str) (dab_nil)))))) (dw_or1 (dt_cmp2 (op_ne.or (op_neD hu)) opb_ne (db_of (de_ix (db_v 1) (db_of (de_int)))) (db_of (de_gs (c.str 10 rfl) rfl)))))))) (dss_one (ds_ret (de_bl))) (dss_nil)) (dss_cons (ds_unp (de_v 1) (dg_t rfl (dgs_cons (dg_v 2 sc_is_plant_of.nd) (dgs_cons (dg_v 3 sc_is_plant_of.nd) (dgs_cons (dg_v 4 sc_is_plant_of.nd) (dgs_cons (dg_v 5 sc_is_plant_of.nd) (dgs_nil))))))) (dss_cons (ds_if (dt_w (dw_or (dt_not (dt_val (de_call (ok_is_count c) bp_is_count (hr.mono (by decide)) hgd (takes_of rfl rfl rfl rfl) (da_cons (de_v 3) (da_nil)) (ALen.cons (ALen.nil)) rfl))) (dw_or (dt_cmp2 (op_ne.or (op_neD hu)) opb_ne (db_v 3) (db_v 0)) (dw_or1 (dt_not (dt_val (de_call (ok_are_owners_of c) bp_are_owners_of (hr.mono (by decide)) hgd (takes_of rfl rfl rfl rfl) (da_cons (de_v 4) (da_nil)) (ALen.cons (ALen.nil)) rfl))))))) (dss_one (ds_ret (de_bl))) (dss_nil)) (dss_cons (ds_if (dt_w (dw_or (dt_not (dt_val (de_bi call_isi (cb_isi .tup) rfl (c.free 0 rfl) bo_isinstance (dab_cons (db_v 5) (dab_cons (db_ty .tup rfl (c.free 3 rfl) bo_tuple) (dab_nil)))))) (dw_or1 (dt_cmp2 (op_ne.or (op_neD hu)) opb_ne (db_of (de_bi call_len cb_len rfl (c.free 4 rfl) bo_len (dab_cons (db_v 5) (dab_nil)))) (db_of (de_bi call_len cb_len rfl (c.free 4 rfl) bo_len (dab_cons (db_v 4) (dab_nil)))))))) (dss_one (ds_ret (de_bl))) (dss_nil)) (dss_cons (ds_if (dt_not (dt_val (de_bi (cr_all rfl) cb_all rfl (c.free 6 rfl) bo_all (dab_cons (db_of (de_frz (dn_lc [("row", 6)] rfl sc_is_plant_of.nd (dj_of (di_seq (de_v 5))) (blk_of (N := ["letters", "value", "word", "told", "owners", "moves", "row"]) (sc := d_is_plant_of.scope) (by decide +kernel)) (by decide) (fun _ _ _ _ _ => dg_v 6 sc_is_plant_of.nd) (fun _ _ _ _ _ => dts_nil) (fun _ _ _ _ _ => de_call (ok_are_place_moves c) bp_are_place_moves (hr.mono (by decide)) hgd takes0 (da_cons (de_v 0) (da_cons (de_bi call_len cb_len rfl (c.free 4 rfl) bo_len (dab_cons (db_v 4) (dab_nil))) (da_cons (de_v 6) (da_nil)))) (ALen.cons (ALen.cons (ALen.cons (ALen.nil)))) rfl)))) (dab_nil))))) (dss_one (ds_ret (de_bl))) (dss_nil)) (dss_one (ds_ret (de_cmp2 op_le opb_le (db_of (de_bi (cr_sum rfl) cb_sum rfl (c.free 11 rfl) bo_sum (dab_cons (db_of (de_frz (dn_lc [("row", 6)] rfl sc_is_plant_of.nd (dj_of (di_seq (de_v 5))) (blk_of (N := ["letters", "value", "word", "told", "owners", "moves", "row"]) (sc := d_is_plant_of.scope) (by decide +kernel)) (by decide) (fun _ _ _ _ _ => dg_v 6 sc_is_plant_of.nd) (fun _ _ _ _ _ => dts_nil) (fun _ _ _ _ _ => de_bi call_len cb_len rfl (c.free 4 rfl) bo_len (dab_cons (db_v 6) (dab_nil)))))) (dab_nil)))) (db_of (de_gi (c.int 12 rfl) rfl)))))))))
theorem sc_is_any_plant : FnScope ["value"] ["value"] d_is_any_plant.scope := ⟨rfl, rfl, rfl, by decide +kernel, rfl, by decide +kernel, by decide +kernel⟩
def g_is_any_plant : Es := sSeq (sIf (bOr (bNot (toB (eFn (bIsi .tup) (aCons (eVb 0) (aCons (eTy .tup) (aNil)))))) (bOr (toB (eBin2 oNe (eFn bLen (aCons (eVb 0) (aNil))) (eC (.int 4)))) (bNot (toB (eCall F_is_count (aCons (eBin2 oIx (eVb 0) (eC (.int 1))) (aNil))))))) (sRt (eC (.bl false))) (sNx)) (sRt (eAnd (ofB (bCh oLe oLe (eC (.int 1)) (eBin2 oIx (eVb 0) (eC (.int 1))) (eC (.int 4)))) (eCall F_is_plant_of (aCons (eBin2 oIx (eVb 0) (eC (.int 1))) (aCons (eV 0) (aNil))))))
def F_is_any_plant : Fn := fnOf 1 g_is_any_plant
theorem ok_is_any_plant {P : Program} {w : World} {K : PySem.W.Frag} {mg : PySem.Str → Option Value} {base : Heap} (c : C K mg base) : OkD P w K mg base d_is_any_plant ["value"] 6 F_is_any_plant :=
  OkD.mk (N := ["value"]) (f := He.ga K "is_any_plant") (fd := (c.says.def_ 6 (d := d_is_any_plant) rfl).choose) (g := g_is_any_plant) (c.glo 35 rfl) (c.says.def_ 6 (d := d_is_any_plant) rfl).choose_spec sc_is_any_plant fun cdv A outer s H E B hr hgd =>
    have hu0 := hr.units0; have hu := hr.units; have hu1 := u1_of hr; have hu65 := u65_of hr
    dss_cons (ds_if (dt_w (dw_or (dt_not (dt_val (de_bi call_isi (cb_isi .tup) rfl (c.free 0 rfl) bo_isinstance (dab_cons (db_v 0) (dab_cons (db_ty .tup rfl (c.free 3 rfl) bo_tuple) (dab_nil)))))) (dw_or (dt_cmp2 (op_ne.or (op_neD hu)) opb_ne (db_of (de_bi call_len cb_len rfl (c.free 4 rfl) bo_len (dab_cons (db_v 0) (dab_nil)))) (db_of (de_int))) (dw_or1 (dt_not (dt_val (de_call (ok_is_count c) bp_is_count (hr.mono (by decide)) hgd (takes_of rfl rfl rfl rfl) (da_cons (de_ix (db_v 0) (db_of (de_int))) (da_nil)) (ALen.cons (ALen.nil)) rfl))))))) (dss_one (ds_ret (de_bl))) (dss_nil)) (dss_one (ds_ret (de_and (de_ch op_le op_le opb_le opb_le (db_of (de_int)) (db_of (de_ix (db_v 0) (db_of (de_int)))) (db_of (de_gi (c.int 13 rfl) rfl))) (de_one (de_call (ok_is_plant_of c) bp_is_plant_of (hr.mono (by decide)) hgd (takes_of rfl rfl rfl rfl) (da_cons (de_ix (db_v 0) (db_of (de_int))) (da_cons (de_v 0) (da_nil))) (ALen.cons (ALen.cons (ALen.nil))) rfl)))))
theorem sc_want_plant : FnScope ["value"] ["value"] d_want_plant.scope := ⟨rfl, rfl, rfl, by decide +kernel, rfl, by decide +kernel, by decide +kernel⟩
def g_want_plant : Es := sSeq (sIf (bNot (toB (eCall F_is_any_plant (aCons (eV 0) (aNil))))) ((fun _ _ => .no)) (sNx)) (sRt (eV 0))
def F_want_plant : Fn := fnOf 1 g_want_plant
theorem ok_want_plant {P : Program} {w : World} {K : PySem.W.Frag} {mg : PySem.Str → Option Value} {base : Heap} (c : C K mg base) : OkD P w K mg base d_want_plant ["value"] 7 F_want_plant :=
  OkD.mk (N := ["value"]) (f := He.ga K "want_plant") (fd := (c.says.def_ 7 (d := d_want_plant) rfl).choose) (g := g_want_plant) (c.glo 36 rfl) (c.says.def_ 7 (d := d_want_plant) rfl).choose_spec sc_want_plant fun cdv A outer s H E B hr hgd =>
    have hu0 := hr.units0; have hu := hr.units; have hu1 := u1_of hr; have hu65 := u65_of hr
    dss_cons (ds_if (dt_not (dt_val (de_call (ok_is_any_plant c) bp_is_any_plant (hr.mono (by decide)) hgd (takes_of rfl rfl rfl rfl) (da_cons (de_v 0) (da_nil)) (ALen.cons (ALen.nil)) rfl))) (dss_one (ds_never)) (dss_nil)) (dss_one (ds_ret (de_v 0)))
theorem sc_moves_of : FnScope ["plant", "found", "place", "row", "letter", "to"] ["plant"] d_moves_of.scope := ⟨rfl, rfl, rfl, by decide +kernel, rfl, by decide +kernel, by decide +kernel⟩
def lt1_moves_of : Tgt := gT 2 (gConsR (gV 4) (gConsR (gV 5) (gNilR))) ((gV 4).ix ++ ((gV 5).ix ++ []))
def lf1_moves_of : Ev D := eTup (aCons (eV 2) (aCons (eV 4) (aCons (eV 5) (aNil))))
def t1_moves_of : Tgt := gT 2 (gConsR (gV 2) (gConsR (gV 3) (gNilR))) ((gV 2).ix ++ ((gV 3).ix ++ []))
def b1_moves_of : Es := sSeq (sMu 1 mExt (eFrz (nLc (iSeq (eV 3)) [4, 5] (lt1_moves_of) (bYes) (lf1_moves_of)))) (sKill [2, 3])
def g_moves_of : Es := sSeq (sNew 1 (nLst (aNil))) (sSeq (sFor (iVia enumOf (aCons (eBin2 oIx (eVb 0) (eC (.int 3))) (aNil))) (t1_moves_of) (b1_moves_of)) (sSeq (sFz 1) (sSeq (sKill [2, 3]) (sRt (eV 1)))))
def F_moves_of : Fn := fnOf 6 g_moves_of
theorem ok_moves_of {P : Program} {w : World} {K : PySem.W.Frag} {mg : PySem.Str → Option Value} {base : Heap} (c : C K mg base) : OkD P w K mg base d_moves_of ["plant"] 1 F_moves_of :=
  OkD.mk (N := ["plant", "found", "place", "row", "letter", "to"]) (f := He.ga K "moves_of") (fd := (c.says.def_ 8 (d := d_moves_of) rfl).choose) (g := g_moves_of) (c.glo 37 rfl) (c.says.def_ 8 (d := d_moves_of) rfl).choose_spec sc_moves_of fun cdv A outer s H E B hr hgd =>
    have hu0 := hr.units0; have hu := hr.units; have hu1 := u1_of hr; have hu65 := u65_of hr
    dss_cons (ds_new 1 (dn_lst (da_nil)) sc_moves_of.nd) (dss_cons (ds_for (passes_of rfl) rfl (di_enum (da_cons (de_ix (db_v 0) (db_of (de_int))) (da_nil)) rfl (c.free 14 rfl)) (dg_t rfl (dgs_cons (dg_v 2 sc_moves_of.nd) (dgs_cons (dg_v 3 sc_moves_of.nd) (dgs_nil)))) (dss_cons (ds_ext 1 (db_of (de_frz (dn_lc [("letter", 4), ("to", 5)] rfl sc_moves_of.nd (dj_of (di_seq (de_v 3))) (blk_of (N := ["plant", "found", "place", "row", "letter", "to"]) (sc := d_moves_of.scope) (by decide +kernel)) (by decide) (fun _ _ _ _ _ => dg_t rfl (dgs_cons (dg_v 4 sc_moves_of.nd) (dgs_cons (dg_v 5 sc_moves_of.nd) (dgs_nil)))) (fun _ _ _ _ _ => dts_nil) (fun _ _ _ _ _ => de_tup (da_cons (de_v 2) (da_cons (de_v 4) (da_cons (de_v 5) (da_nil))))))))) (dss_kill0 [2, 3]))) (dss_fz (dss_kill [2, 3] (dss_one (ds_ret (de_v 1))))))
theorem sc_is_taken : FnScope ["plant", "side", "place", "value"] ["plant", "side", "place", "value"] d_is_taken.scope := ⟨rfl, rfl, rfl, by decide +kernel, rfl, by decide +kernel, by decide +kernel⟩
def g_is_taken : Es := sSeq (sIf (toB (eBin2 oNe (eBin2 oIx (eBin2 oIx (eVb 0) (eC (.int 2))) (eVb 2)) (eVb 1))) (sRt (eBin2 oIsN (eVb 3) (eC .non))) (sNx)) (sRt (eAnd (eCall F_is_count (aCons (eV 3) (aNil))) (eBin2 oLt (eVb 3) (eFn bLen (aCons (eBin2 oIx (eBin2 oIx (eVb 0) (eC (.int 3))) (eVb 2)) (aNil))))))
def F_is_taken : Fn := fnOf 4 g_is_taken
theorem ok_is_taken {P : Program} {w : World} {K : PySem.W.Frag} {mg : PySem.Str → Option Value} {base : Heap} (c : C K mg base) : OkD P w K mg base d_is_taken ["plant", "side", "place", "value"] 3 F_is_taken :=
  OkD.mk (N := ["plant", "side", "place", "value"]) (f := He.ga K "is_taken") (fd := (c.says.def_ 9 (d := d_is_taken) rfl).choose) (g := g_is_taken) (c.glo 38 rfl) (c.says.def_ 9 (d := d_is_taken) rfl).choose_spec sc_is_taken fun cdv A outer s H E B hr hgd =>
    have hu0 := hr.units0; have hu := hr.units; have hu1 := u1_of hr; have hu65 := u65_of hr
    dss_cons (ds_if (dt_cmp2 (op_ne.or (op_neD hu)) opb_ne (db_of (de_ix (db_of (de_ix (db_v 0) (db_of (de_int)))) (db_v 2))) (db_v 1)) (dss_one (ds_ret (de_cmp2 op_isN opb_isN (db_v 3) (db_of (de_non))))) (dss_nil)) (dss_one (ds_ret (de_and (de_call (ok_is_count c) bp_is_count (hr.mono (by decide)) hgd (takes_of rfl rfl rfl rfl) (da_cons (de_v 3) (da_nil)) (ALen.cons (ALen.nil)) rfl) (de_one (de_cmp2 (op_lt.or (op_ltT hu0)) opb_lt (db_v 3) (db_of (de_bi call_len cb_len rfl (c.free 4 rfl) bo_len (dab_cons (db_of (de_ix (db_of (de_ix (db_v 0) (db_of (de_int)))) (db_v 2))) (dab_nil)))))))))
theorem sc_are_taken : FnScope ["plant", "side", "value", "place", "one"] ["plant", "side", "value"] d_are_taken.scope := ⟨rfl, rfl, rfl, by decide +kernel, rfl, by decide +kernel, by decide +kernel⟩
def lt1_are_taken : Tgt := gT 2 (gConsR (gV 3) (gConsR (gV 4) (gNilR))) ((gV 3).ix ++ ((gV 4).ix ++ []))
def lf1_are_taken : Ev D := eCall F_is_taken (aCons (eV 0) (aCons (eV 1) (aCons (eV 3) (aCons (eV 4) (aNil)))))
def g_are_taken : Es := sSeq (sIf (bOr (bNot (toB (eFn (bIsi .tup) (aCons (eVb 2) (aCons (eTy .tup) (aNil)))))) (toB (eBin2 oNe (eFn bLen (aCons (eVb 2) (aNil))) (eFn bLen (aCons (eBin2 oIx (eVb 0) (eC (.int 2))) (aNil)))))) (sRt (eC (.bl false))) (sNx)) (sRt (eFn bAll (aCons (eFrz (nLc (iVia enumOf (aCons (eV 2) (aNil))) [3, 4] (lt1_are_taken) (bYes) (lf1_are_taken))) (aNil))))
def F_are_taken : Fn := fnOf 5 g_are_taken
theorem ok_are_taken {P : Program} {w : World} {K : PySem.W.Frag} {mg : PySem.Str → Option Value} {base : Heap} (c : C K mg base) : OkD P w K mg base d_are_taken ["plant", "side", "value"] 4 F_are_taken :=
  OkD.mk (N := ["plant", "side", "value", "place", "one"]) (f := He.ga K "are_taken") (fd := (c.says.def_ 10 (d := d_are_taken) rfl).choose) (g := g_are_taken) (c.glo 39 rfl) (c.says.def_ 10 (d := d_are_taken) rfl).choose_spec sc_are_taken fun cdv A outer s H E B hr hgd =>
    have hu0 := hr.units0; have hu := hr.units; have hu1 := u1_of hr; have hu65 := u65_of hr
    dss_cons (ds_if (dt_w (dw_or (dt_not (dt_val (de_bi call_isi (cb_isi .tup) rfl (c.free 0 rfl) bo_isinstance (dab_cons (db_v 2) (dab_cons (db_ty .tup rfl (c.free 3 rfl) bo_tuple) (dab_nil)))))) (dw_or1 (dt_cmp2 (op_ne.or (op_neD hu)) opb_ne (db_of (de_bi call_len cb_len rfl (c.free 4 rfl) bo_len (dab_cons (db_v 2) (dab_nil)))) (db_of (de_bi call_len cb_len rfl (c.free 4 rfl) bo_len (dab_cons (db_of (de_ix (db_v 0) (db_of (de_int)))) (dab_nil)))))))) (dss_one (ds_ret (de_bl))) (dss_nil)) (dss_one (ds_ret (de_bi (cr_all rfl) cb_all rfl (c.free 6 rfl) bo_all (dab_cons (db_of (de_frz (dn_lc [("place", 3), ("one", 4)] rfl sc_are_taken.nd (dj_of (di_enum (da_cons (de_v 2) (da_nil)) rfl (c.free 14 rfl))) (blk_of (N := ["plant", "side", "value", "place", "one"]) (sc := d_are_taken.scope) (by decide +kernel)) (by decide) (fun _ _ _ _ _ => dg_t rfl (dgs_cons (dg_v 3 sc_are_taken.nd) (dgs_cons (dg_v 4 sc_are_taken.nd) (dgs_nil)))) (fun _ _ _ _ _ => dts_nil) (fun _ _ _ _ _ => de_call (ok_is_taken c) bp_is_taken (hr.mono (by decide)) hgd takes0 (da_cons (de_v 0) (da_cons (de_v 1) (da_cons (de_v 3) (da_cons (de_v 4) (da_nil))))) (ALen.cons (ALen.cons (ALen.cons (ALen.cons (ALen.nil))))) rfl)))) (dab_nil)))))
theorem sc_are_next : FnScope ["moves", "many", "value", "one"] ["moves", "many", "value"] d_are_next.scope := ⟨rfl, rfl, rfl, by decide +kernel, rfl, by decide +kernel, by decide +kernel⟩
def lt1_are_next : Tgt := gV 3
def lf1_are_next : Ev D := eAnd (eCall F_is_count (aCons (eV 3) (aNil))) (eBin2 oLt (eVb 3) (eVb 1))
def g_are_next : Es := sSeq (sIf (bOr (bNot (toB (eFn (bIsi .tup) (aCons (eVb 2) (aCons (eTy .tup) (aNil)))))) (toB (eBin2 oNe (eFn bLen (aCons (eVb 2) (aNil))) (eVb 0)))) (sRt (eC (.bl false))) (sNx)) (sRt (eFn bAll (aCons (eFrz (nLc (iSeq (eV 2)) [3] (lt1_are_next) (bYes) (lf1_are_next))) (aNil))))
def F_are_next : Fn := fnOf 4 g_are_next
theorem ok_are_next {P : Program} {w : World} {K : PySem.W.Frag} {mg : PySem.Str → Option Value} {base : Heap} (c : C K mg base) : OkD P w K mg base d_are_next ["moves", "many", "value"] 3 F_are_next :=
  OkD.mk (N := ["moves", "many", "value", "one"]) (f := He.ga K "are_next") (fd := (c.says.def_ 11 (d := d_are_next) rfl).choose) (g := g_are_next) (c.glo 40 rfl) (c.says.def_ 11 (d := d_are_next) rfl).choose_spec sc_are_next fun cdv A outer s H E B hr hgd =>
    have hu0 := hr.units0; have hu := hr.units; have hu1 := u1_of hr; have hu65 := u65_of hr
    dss_cons (ds_if (dt_w (dw_or (dt_not (dt_val (de_bi call_isi (cb_isi .tup) rfl (c.free 0 rfl) bo_isinstance (dab_cons (db_v 2) (dab_cons (db_ty .tup rfl (c.free 3 rfl) bo_tuple) (dab_nil)))))) (dw_or1 (dt_cmp2 (op_ne.or (op_neD hu)) opb_ne (db_of (de_bi call_len cb_len rfl (c.free 4 rfl) bo_len (dab_cons (db_v 2) (dab_nil)))) (db_v 0))))) (dss_one (ds_ret (de_bl))) (dss_nil)) (dss_one (ds_ret (de_bi (cr_all rfl) cb_all rfl (c.free 6 rfl) bo_all (dab_cons (db_of (de_frz (dn_lc [("one", 3)] rfl sc_are_next.nd (dj_of (di_seq (de_v 2))) (blk_of (N := ["moves", "many", "value", "one"]) (sc := d_are_next.scope) (by decide +kernel)) (by decide) (fun _ _ _ _ _ => dg_v 3 sc_are_next.nd) (fun _ _ _ _ _ => dts_nil) (fun _ _ _ _ _ => de_and (de_call (ok_is_count c) bp_is_count (hr.mono (by decide)) hgd takes0 (da_cons (de_v 3) (da_nil)) (ALen.cons (ALen.nil)) rfl) (de_one (de_cmp2 (op_lt.or (op_ltT hu0)) opb_lt (db_v 3) (db_v 1))))))) (dab_nil)))))
theorem sc_is_machine_of : FnScope ["plant", "word", "side", "most", "value", "takes", "nexts", "many", "some", "one"] ["plant", "word", "side", "most", "value"] d_is_machine_of.scope := ⟨rfl, rfl, rfl, by decide +kernel, rfl, by decide +kernel, by decide +kernel⟩
def lt1_is_machine_of : Tgt := gV 9
def lf1_is_machine_of : Ev D := eCall F_are_taken (aCons (eV 0) (aCons (eV 2) (aCons (eV 9) (aNil))))
def lt2_is_machine_of : Tgt := gV 8
def lf2_is_machine_of : Ev D := eFn bLen (aCons (eVb 8) (aNil))
def lt3_is_machine_of : Tgt := gV 9
def lf3_is_machine_of : Ev D := eCall F_are_next (aCons (eV 7) (aCons (eFn bLen (aCons (eVb 5) (aNil))) (aCons (eV 9) (aNil))))
def g_is_machine_of : Es := sSeq (sIf (bOr (bNot (toB (eFn (bIsi .tup) (aCons (eVb 4) (aCons (eTy .tup) (aNil)))))) (bOr (toB (eBin2 oNe (eFn bLen (aCons (eVb 4) (aNil))) (eC (.int 3)))) (bOr (bNot (toB (eFn (bIsi .str) (aCons (eBin2 oIx (eVb 4) (eC (.int 0))) (aCons (eTy .str) (aNil)))))) (toB (eBin2 oNe (eBin2 oIx (eVb 4) (eC (.int 0))) (eVb 1)))))) (sRt (eC (.bl false))) (sNx)) (sSeq (sUnp (gT 2 (gConsR (gV 5) (gConsR (gV 6) (gNilR))) ((gV 5).ix ++ ((gV 6).ix ++ []))) (eSl (eVb 4) (pAt (eC (.int 1))) (pNo))) (sSeq (sIf (bOr (bNot (toB (eFn (bIsi .tup) (aCons (eVb 5) (aCons (eTy .tup) (aNil)))))) (bNot (toB (eFn (bIsi .tup) (aCons (eVb 6) (aCons (eTy .tup) (aNil))))))) (sRt (eC (.bl false))) (sNx)) (sSeq (sIf (bOr (bNot (bCh oLe oLe (eC (.int 1)) (eFn bLen (aCons (eVb 5) (aNil))) (eVb 3))) (toB (eBin2 oNe (eFn bLen (aCons (eVb 6) (aNil))) (eFn bLen (aCons (eVb 5) (aNil)))))) (sRt (eC (.bl false))) (sNx)) (sSeq (sIf (bNot (toB (eFn bAll (aCons (eFrz (nLc (iSeq (eV 5)) [9] (lt1_is_machine_of) (bYes) (lf1_is_machine_of))) (aNil))))) (sRt (eC (.bl false))) (sNx)) (sSeq (sSet 7 (eFn bSum (aCons (eFrz (nLc (iSeq (eBin2 oIx (eVb 0) (eC (.int 3)))) [8] (lt2_is_machine_of) (bYes) (lf2_is_machine_of))) (aNil)))) (sRt (eFn bAll (aCons (eFrz (nLc (iSeq (eV 6)) [9] (lt3_is_machine_of) (bYes) (lf3_is_machine_of))) (aNil)))))))))
def F_is_machine_of : Fn := fnOf 10 g_is_machine_of
theorem ok_is_machine_of {P : Program} {w : World} {K : PySem.W.Frag} {mg : PySem.Str → Option Value} {base : Heap} (c : C K mg base) : OkD P w K mg base d_is_machine_of ["plant", "word", "side", "most", "value"] 5 F_is_machine_of :=
  OkD.mk (N := ["plant", "word", "side", "most", "value", "takes", "nexts", "many", "some", "one"]) (f := He.ga K "is_machine_of") (fd := (c.says.def_ 12 (d := d_is_machine_of) rfl).choose) (g := g_is_machine_of) (c.glo 41 rfl) (c.says.def_ 12 (d := d_is_machine_of) rfl).choose_spec sc_is_machine_of fun cdv A outer s H E B hr hgd =>
    have hu0 := hr.units0; have hu := hr.units; have hu1 := u1_of hr; have hu65 := u65_of hr
    dss_cons (ds_if (dt_w (dw_or (dt_not (dt_val (de_bi call_isi (cb_isi .tup) rfl (c.free 0 rfl) bo_isinstance (dab_cons (db_v 4) (dab_cons (db_ty .tup rfl (c.free 3 rfl) bo_tuple) (dab_nil)))))) (dw_or (dt_cmp2 (op_ne.or (op_neD hu)) opb_ne (db_of (de_bi call_len cb_len rfl (c.free 4 rfl) bo_len (dab_cons (db_v 4) (dab_nil)))) (db_of (de_int))) (dw_or (dt_not (dt_val (de_bi call_isi (cb_isi .str) rfl (c.free 0 rfl) bo_isinstance (dab_cons (db_of (de_ix (db_v 4) (db_of (de_int)))) (dab_cons (db_ty .str rfl (c.free 9 rfl) bo_str) (dab_nil)))))) (dw_or1 (dt_cmp2 (op_ne.or (op_neD hu)) opb_ne (db_of (de_ix (db_v 4) (db_of (de_int)))) (db_v 1))))))) (dss_one (ds_ret (de_bl))) (dss_nil)) (dss_cons (ds_unp (de_sl (db_v 4) (do_at (db_of (de_int))) (do_no)) (dg_t rfl (dgs_cons (dg_v 5 sc_is_machine_of.nd) (dgs_cons (dg_v 6 sc_is_machine_of.nd) (dgs_nil))))) (dss_cons (ds_if (dt_w (dw_or (dt_not (dt_val (de_bi call_isi (cb_isi .tup) rfl (c.free 0 rfl) bo_isinstance (dab_cons (db_v 5) (dab_cons (db_ty .tup rfl (c.free 3 rfl) bo_tuple) (dab_nil)))))) (dw_or1 (dt_not (dt_val (de_bi call_isi (cb_isi .tup) rfl (c.free 0 rfl) bo_isinstance (dab_cons (db_v 6) (dab_cons (db_ty .tup rfl (c.free 3 rfl) bo_tuple) (dab_nil))))))))) (dss_one (ds_ret (de_bl))) (dss_nil)) (dss_cons (ds_if (dt_w (dw_or (dt_not (dt_ch op_le op_le opb_le opb_le (db_of (de_int)) (db_of (de_bi call_len cb_len rfl (c.free 4 rfl) bo_len (dab_cons (db_v 5) (dab_nil)))) (db_v 3))) (dw_or1 (dt_cmp2 (op_ne.or (op_neD hu)) opb_ne (db_of (de_bi call_len cb_len rfl (c.free 4 rfl) bo_len (dab_cons (db_v 6) (dab_nil)))) (db_of (de_bi call_len cb_len rfl (c.free 4 rfl) bo_len (dab_cons (db_v 5) (dab_nil)))))))) (dss_one (ds_ret (de_bl))) (dss_nil)) (dss_cons (ds_if (dt_not (dt_val (de_bi (cr_all rfl) cb_all rfl (c.free 6 rfl) bo_all (dab_cons (db_of (de_frz (dn_lc [("one", 9)] rfl sc_is_machine_of.nd (dj_of (di_seq (de_v 5))) (blk_of (N := ["plant", "word", "side", "most", "value", "takes", "nexts", "many", "some", "one"]) (sc := d_is_machine_of.scope) (by decide +kernel)) (by decide) (fun _ _ _ _ _ => dg_v 9 sc_is_machine_of.nd) (fun _ _ _ _ _ => dts_nil) (fun _ _ _ _ _ => de_call (ok_are_taken c) bp_are_taken (hr.mono (by decide)) hgd takes0 (da_cons (de_v 0) (da_cons (de_v 2) (da_cons (de_v 9) (da_nil)))) (ALen.cons (ALen.cons (ALen.cons (ALen.nil)))) rfl)))) (dab_nil))))) (dss_one (ds_ret (de_bl))) (dss_nil)) (dss_cons (ds_set 7 (de_bi (cr_sum rfl) cb_sum rfl (c.free 11 rfl) bo_sum (dab_cons (db_of (de_frz (dn_lc [("some", 8)] rfl sc_is_machine_of.nd (dj_of (di_seq (de_ix (db_v 0) (db_of (de_int))))) (blk_of (N := ["plant", "word", "side", "most", "value", "takes", "nexts", "many", "some", "one"]) (sc := d_is_machine_of.scope) (by decide +kernel)) (by decide) (fun _ _ _ _ _ => dg_v 8 sc_is_machine_of.nd) (fun _ _ _ _ _ => dts_nil) (fun _ _ _ _ _ => de_bi call_len cb_len rfl (c.free 4 rfl) bo_len (dab_cons (db_v 8) (dab_nil)))))) (dab_nil))) sc_is_machine_of.nd) (dss_one (ds_ret (de_bi (cr_all rfl) cb_all rfl (c.free 6 rfl) bo_all (dab_cons (db_of (de_frz (dn_lc [("one", 9)] rfl sc_is_machine_of.nd (dj_of (di_seq (de_v 6))) (blk_of (N := ["plant", "word", "side", "most", "value", "takes", "nexts", "many", "some", "one"]) (sc := d_is_machine_of.scope) (by decide +kernel)) (by decide) (fun _ _ _ _ _ => dg_v 9 sc_is_machine_of.nd) (fun _ _ _ _ _ => dts_nil) (fun _ _ _ _ _ => de_call (ok_are_next c) bp_are_next (hr.mono (by decide)) hgd takes0 (da_cons (de_v 7) (da_cons (de_bi call_len cb_len rfl (c.free 4 rfl) bo_len (dab_cons (db_v 5) (dab_nil))) (da_cons (de_v 9) (da_nil)))) (ALen.cons (ALen.cons (ALen.cons (ALen.nil)))) rfl)))) (dab_nil))))))))))
theorem sc_is_hand_of : FnScope ["plant", "value"] ["plant", "value"] d_is_hand_of.scope := ⟨rfl, rfl, rfl, by decide +kernel, rfl, by decide +kernel, by decide +kernel⟩
def g_is_hand_of : Es := sRt (eCall F_is_machine_of (aCons (eV 0) (aCons (eC (.str "hand")) (aCons (eC (.int 0)) (aCons (eC (.int 60)) (aCons (eV 1) (aNil)))))))
def F_is_hand_of : Fn := fnOf 2 g_is_hand_of
theorem ok_is_hand_of {P : Program} {w : World} {K : PySem.W.Frag} {mg : PySem.Str → Option Value} {base : Heap} (c : C K mg base) : OkD P w K mg base d_is_hand_of ["plant", "value"] 6 F_is_hand_of :=
  OkD.mk (N := ["plant", "value"]) (f := He.ga K "is_hand_of") (fd := (c.says.def_ 13 (d := d_is_hand_of) rfl).choose) (g := g_is_hand_of) (c.glo 42 rfl) (c.says.def_ 13 (d := d_is_hand_of) rfl).choose_spec sc_is_hand_of fun cdv A outer s H E B hr hgd =>
    have hu0 := hr.units0; have hu := hr.units; have hu1 := u1_of hr; have hu65 := u65_of hr
    dss_one (ds_ret (de_call (ok_is_machine_of c) bp_is_machine_of (hr.mono (by decide)) hgd (takes_of rfl rfl rfl rfl) (da_cons (de_v 0) (da_cons (de_str) (da_cons (de_int) (da_cons (de_gi (c.int 15 rfl) rfl) (da_cons (de_v 1) (da_nil)))))) (ALen.cons (ALen.cons (ALen.cons (ALen.cons (ALen.cons (ALen.nil)))))) rfl))
theorem sc_want_hand : FnScope ["plant", "value"] ["plant", "value"] d_want_hand.scope := ⟨rfl, rfl, rfl, by decide +kernel, rfl, by decide +kernel, by decide +kernel⟩
def g_want_hand : Es := sSeq (sIf (bNot (toB (eCall F_is_hand_of (aCons (eV 0) (aCons (eV 1) (aNil)))))) ((fun _ _ => .no)) (sNx)) (sRt (eV 1))
def F_want_hand : Fn := fnOf 2 g_want_hand
theorem ok_want_hand {P : Program} {w : World} {K : PySem.W.Frag} {mg : PySem.Str → Option Value} {base : Heap} (c : C K mg base) : OkD P w K mg base d_want_hand ["plant", "value"] 7 F_want_hand :=
  OkD.mk (N := ["plant", "value"]) (f := He.ga K "want_hand") (fd := (c.says.def_ 14 (d := d_want_hand) rfl).choose) (g := g_want_hand) (c.glo 43 rfl) (c.says.def_ 14 (d := d_want_hand) rfl).choose_spec sc_want_hand fun cdv A outer s H E B hr hgd =>
    have hu0 := hr.units0; have hu := hr.units; have hu1 := u1_of hr; have hu65 := u65_of hr
    dss_cons (ds_if (dt_not (dt_val (de_call (ok_is_hand_of c) bp_is_hand_of (hr.mono (by decide)) hgd (takes_of rfl rfl rfl rfl) (da_cons (de_v 0) (da_cons (de_v 1) (da_nil))) (ALen.cons (ALen.cons (ALen.nil))) rfl))) (dss_one (ds_never)) (dss_nil)) (dss_one (ds_ret (de_v 1)))
theorem sc_lines_of : FnScope ["plant", "hand", "found", "memory", "takes", "near", "place", "position", "move", "late"] ["plant", "hand"] d_lines_of.scope := ⟨rfl, rfl, rfl, by decide +kernel, rfl, by decide +kernel, by decide +kernel⟩
def t1_lines_of : Tgt := gT 2 (gConsR (gV 6) (gConsR (gV 7) (gNilR))) ((gV 6).ix ++ ((gV 7).ix ++ []))
def b1_lines_of : Es := sSeq (sIf (toB (eBin2 oNotN (eVb 7) (eC .non))) (sMu 2 mApp (eBin2 oAdd (eBin2 oAdd (eBin2 oAdd (eBin2 oAdd (eVb 5) (eC (.str " at "))) (eFn bStr (aCons (eVb 6) (aNil)))) (eC (.str " take "))) (eFn bStr (aCons (eVb 7) (aNil))))) (sNx)) (sKill [6, 7])
def t2_lines_of : Tgt := gT 2 (gConsR (gV 8) (gConsR (gV 9) (gNilR))) ((gV 8).ix ++ ((gV 9).ix ++ []))
def b2_lines_of : Es := sSeq (sIf (toB (eBin2 oNe (eVb 9) (eVb 3))) (sMu 2 mApp (eBin2 oAdd (eBin2 oAdd (eBin2 oAdd (eBin2 oAdd (eVb 5) (eC (.str " after "))) (eFn bStr (aCons (eVb 8) (aNil)))) (eC (.str " go "))) (eFn bStr (aCons (eVb 9) (aNil))))) (sNx)) (sKill [9, 8])
def t3_lines_of : Tgt := gT 2 (gConsR (gV 3) (gConsR (gV 4) (gNilR))) ((gV 3).ix ++ ((gV 4).ix ++ []))
def b3_lines_of : Es := sSeq (sSet 5 (eBin2 oAdd (eC (.str "in ")) (eFn bStr (aCons (eVb 3) (aNil))))) (sSeq (sFor (iVia enumOf (aCons (eV 4) (aNil))) (t1_lines_of) (b1_lines_of)) (sSeq (sKill [6, 7]) (sSeq (sFor (iVia enumOf (aCons (eBin2 oIx (eBin2 oIx (eVb 1) (eC (.int 2))) (eVb 3)) (aNil))) (t2_lines_of) (b2_lines_of)) (sKill [9, 3, 8, 5, 6, 7, 4]))))
def g_lines_of : Es := sSeq (sNew 2 (nLst (aCons (eBin2 oAdd (eC (.str "memories ")) (eFn bStr (aCons (eFn bLen (aCons (eBin2 oIx (eVb 1) (eC (.int 1))) (aNil))) (aNil)))) (aNil)))) (sSeq (sFor (iVia enumOf (aCons (eBin2 oIx (eVb 1) (eC (.int 1))) (aNil))) (t3_lines_of) (b3_lines_of)) (sSeq (sFz 2) (sSeq (sKill [9, 3, 8, 5, 6, 7, 4]) (sRt (eV 2)))))
def F_lines_of : Fn := fnOf 10 g_lines_of
theorem ok_lines_of {P : Program} {w : World} {K : PySem.W.Frag} {mg : PySem.Str → Option Value} {base : Heap} (c : C K mg base) : OkD P w K mg base d_lines_of ["plant", "hand"] 1 F_lines_of :=
  OkD.mk (N := ["plant", "hand", "found", "memory", "takes", "near", "place", "position", "move", "late"]) (f := He.ga K "lines_of") (fd := (c.says.def_ 15 (d := d_lines_of) rfl).choose) (g := g_lines_of) (c.glo 44 rfl) (c.says.def_ 15 (d := d_lines_of) rfl).choose_spec sc_lines_of fun cdv A outer s H E B hr hgd =>
    have hu0 := hr.units0; have hu := hr.units; have hu1 := u1_of hr; have hu65 := u65_of hr
    dss_cons (ds_new 2 (dn_lst (da_cons (de_add (db_of (de_str)) (db_of (de_ty call_str_int cb_str rfl (c.free 9 rfl) bo_str (dab_cons (db_of (de_bi call_len cb_len rfl (c.free 4 rfl) bo_len (dab_cons (db_of (de_ix (db_v 1) (db_of (de_int)))) (dab_nil)))) (dab_nil))))) (da_nil))) sc_lines_of.nd) (dss_cons (ds_for (passes_of rfl) rfl (di_enum (da_cons (de_ix (db_v 1) (db_of (de_int))) (da_nil)) rfl (c.free 14 rfl)) (dg_t rfl (dgs_cons (dg_v 3 sc_lines_of.nd) (dgs_cons (dg_v 4 sc_lines_of.nd) (dgs_nil)))) (dss_cons (ds_set 5 (de_add (db_of (de_str)) (db_of (de_ty call_str_int cb_str rfl (c.free 9 rfl) bo_str (dab_cons (db_v 3) (dab_nil))))) sc_lines_of.nd) (dss_cons (ds_for (passes_of rfl) rfl (di_enum (da_cons (de_v 4) (da_nil)) rfl (c.free 14 rfl)) (dg_t rfl (dgs_cons (dg_v 6 sc_lines_of.nd) (dgs_cons (dg_v 7 sc_lines_of.nd) (dgs_nil)))) (dss_cons (ds_if (dt_cmp2 op_notN opb_notN (db_v 7) (db_of (de_non))) (dss_one (ds_app 2 (de_add (db_of (de_add (db_of (de_add (db_of (de_add (db_v 5) (db_of (de_str)))) (db_of (de_ty call_str_int cb_str rfl (c.free 9 rfl) bo_str (dab_cons (db_v 6) (dab_nil)))))) (db_of (de_str)))) (db_of (de_ty call_str_int cb_str rfl (c.free 9 rfl) bo_str (dab_cons (db_v 7) (dab_nil))))))) (dss_nil)) (dss_kill0 [6, 7]))) (dss_kill [6, 7] (dss_cons (ds_for (passes_of rfl) rfl (di_enum (da_cons (de_ix (db_of (de_ix (db_v 1) (db_of (de_int)))) (db_v 3)) (da_nil)) rfl (c.free 14 rfl)) (dg_t rfl (dgs_cons (dg_v 8 sc_lines_of.nd) (dgs_cons (dg_v 9 sc_lines_of.nd) (dgs_nil)))) (dss_cons (ds_if (dt_cmp2 (op_ne.or (op_neD hu)) opb_ne (db_v 9) (db_v 3)) (dss_one (ds_app 2 (de_add (db_of (de_add (db_of (de_add (db_of (de_add (db_v 5) (db_of (de_str)))) (db_of (de_ty call_str_int cb_str rfl (c.free 9 rfl) bo_str (dab_cons (db_v 8) (dab_nil)))))) (db_of (de_str)))) (db_of (de_ty call_str_int cb_str rfl (c.free 9 rfl) bo_str (dab_cons (db_v 9) (dab_nil))))))) (dss_nil)) (dss_kill0 [9, 8]))) (dss_kill0 [9, 3, 8, 5, 6, 7, 4])))))) (dss_fz (dss_kill [9, 3, 8, 5, 6, 7, 4] (dss_one (ds_ret (de_v 2))))))
theorem sc_number_in : FnScope ["word", "most", "sign"] ["word", "most"] d_number_in.scope := ⟨rfl, rfl, rfl, by decide +kernel, rfl, by decide +kernel, by decide +kernel⟩
def lt1_number_in : Tgt := gV 2
def lf1_number_in : Ev D := eBin2 oInS (eVb 2) (eC (.str "0123456789"))
def g_number_in : Es := sSeq (sIf (bOr (toB (eBin2 oEq (eVb 0) (eC (.str "")))) (bOr (bNot (toB (eFn bAll (aCons (eFrz (nLc (DL.iStr (eV 0)) [2] (lt1_number_in) (bYes) (lf1_number_in))) (aNil))))) (bAnd (toB (eBin2 oGt (eFn bLen (aCons (eVb 0) (aNil))) (eC (.int 1)))) (toB (eBin2 oEq (eBin2 oIx (eVb 0) (eC (.int 0))) (eC (.str "0"))))))) (sRt (eC .non)) (sNx)) (sRt (eIf (bAnd (toB (eBin2 oLt (eFn bLen (aCons (eVb 0) (aNil))) (eC (.int 9)))) (toB (eBin2 oLt (eFn bIntS (aCons (eVb 0) (aNil))) (eVb 1)))) (eFn bIntS (aCons (eVb 0) (aNil))) (eC .non)))
def F_number_in : Fn := fnOf 3 g_number_in
theorem ok_number_in {P : Program} {w : World} {K : PySem.W.Frag} {mg : PySem.Str → Option Value} {base : Heap} (c : C K mg base) : OkD P w K mg base d_number_in ["word", "most"] 1 F_number_in :=
  OkD.mk (N := ["word", "most", "sign"]) (f := He.ga K "number_in") (fd := (c.says.def_ 16 (d := d_number_in) rfl).choose) (g := g_number_in) (c.glo 45 rfl) (c.says.def_ 16 (d := d_number_in) rfl).choose_spec sc_number_in fun cdv A outer s H E B hr hgd =>
    have hu0 := hr.units0; have hu := hr.units; have hu1 := u1_of hr; have hu65 := u65_of hr
    dss_cons (ds_if (dt_w (dw_or (dt_cmp2 (op_eq.or (op_eqD hu)) opb_eq (db_v 0) (db_of (de_str))) (dw_or (dt_not (dt_val (de_bi (cr_all rfl) cb_all rfl (c.free 6 rfl) bo_all (dab_cons (db_of (de_frz (dn_lc [("sign", 2)] rfl sc_number_in.nd (dj_of (di_str (de_v 0))) (blk_of (N := ["word", "most", "sign"]) (sc := d_number_in.scope) (by decide +kernel)) (by decide) (fun _ _ _ _ _ => dg_v 2 sc_number_in.nd) (fun _ _ _ _ _ => dts_nil) (fun _ _ _ _ _ => de_cmp2 op_in_sign opb_inS (db_v 2) (db_of (de_gs (c.str 16 rfl) rfl)))))) (dab_nil))))) (dw_or1 (dt_w (dw_and (dt_cmp2 op_gt opb_gt (db_of (de_bi call_len cb_len rfl (c.free 4 rfl) bo_len (dab_cons (db_v 0) (dab_nil)))) (db_of (de_int))) (dw_and1 (dt_cmp2 (op_eq.or (op_eqD hu)) opb_eq (db_of (de_ix (db_v 0) (db_of (de_int)))) (db_of (de_str)))))))))) (dss_one (ds_ret (de_non))) (dss_nil)) (dss_one (ds_ret (de_if (dt_w (dw_and (dt_cmp2 (op_lt.or (op_ltT hu0)) opb_lt (db_of (de_bi call_len cb_len rfl (c.free 4 rfl) bo_len (dab_cons (db_v 0) (dab_nil)))) (db_of (de_int))) (dw_and1 (dt_cmp2 (op_lt.or (op_ltT hu0)) opb_lt (db_of (de_ty call_intS cb_intS rfl (c.free 1 rfl) bo_int (dab_cons (db_v 0) (dab_nil)))) (db_v 1))))) (de_ty call_intS cb_intS rfl (c.free 1 rfl) bo_int (dab_cons (db_v 0) (dab_nil))) (de_non))))
theorem sc_memories_in : FnScope ["line", "words", "many"] ["line"] d_memories_in.scope := ⟨rfl, rfl, rfl, by decide +kernel, rfl, by decide +kernel, by decide +kernel⟩
def g_memories_in : Es := sSeq (sSet 1 (eSplit (eV 0) (eC (.str " ")))) (sSeq (sIf (bOr (toB (eBin2 oNe (eFn bLen (aCons (eVb 1) (aNil))) (eC (.int 2)))) (toB (eBin2 oNe (eBin2 oIx (eVb 1) (eC (.int 0))) (eC (.str "memories"))))) (sRt (eC .non)) (sNx)) (sSeq (sSet 2 (eCall F_number_in (aCons (eBin2 oIx (eVb 1) (eC (.int 1))) (aCons (eBin2 oAdd (eC (.int 60)) (eC (.int 1))) (aNil))))) (sRt (eIf (toB (eBin2 oNe (eVb 2) (eC (.int 0)))) (eV 2) (eC .non)))))
def F_memories_in : Fn := fnOf 3 g_memories_in
theorem ok_memories_in {P : Program} {w : World} {K : PySem.W.Frag} {mg : PySem.Str → Option Value} {base : Heap} (c : C K mg base) : OkD P w K mg base d_memories_in ["line"] 2 F_memories_in :=
  OkD.mk (N := ["line", "words", "many"]) (f := He.ga K "memories_in") (fd := (c.says.def_ 17 (d := d_memories_in) rfl).choose) (g := g_memories_in) (c.glo 46 rfl) (c.says.def_ 17 (d := d_memories_in) rfl).choose_spec sc_memories_in fun cdv A outer s H E B hr hgd =>
    have hu0 := hr.units0; have hu := hr.units; have hu1 := u1_of hr; have hu65 := u65_of hr
    dss_cons (ds_set 1 (de_split (de_v 0) (de_str)) sc_memories_in.nd) (dss_cons (ds_if (dt_w (dw_or (dt_cmp2 (op_ne.or (op_neD hu)) opb_ne (db_of (de_bi call_len cb_len rfl (c.free 4 rfl) bo_len (dab_cons (db_v 1) (dab_nil)))) (db_of (de_int))) (dw_or1 (dt_cmp2 (op_ne.or (op_neD hu)) opb_ne (db_of (de_ix (db_v 1) (db_of (de_int)))) (db_of (de_str)))))) (dss_one (ds_ret (de_non))) (dss_nil)) (dss_cons (ds_set 2 (de_call (ok_number_in c) bp_number_in (hr.mono (by decide)) hgd (takes_of rfl rfl rfl rfl) (da_cons (de_ix (db_v 1) (db_of (de_int))) (da_cons (de_add (db_of (de_gi (c.int 15 rfl) rfl)) (db_of (de_int))) (da_nil))) (ALen.cons (ALen.cons (ALen.nil))) rfl) sc_memories_in.nd) (dss_one (ds_ret (de_if (dt_cmp2 (op_ne.or (op_neD hu)) opb_ne (db_v 2) (db_of (de_int))) (de_v 2) (de_non))))))
theorem sc_take_in : FnScope ["plant", "near", "far", "place", "position"] ["plant", "near", "far"] d_take_in.scope := ⟨rfl, rfl, rfl, by decide +kernel, rfl, by decide +kernel, by decide +kernel⟩
def g_take_in : Es := sSeq (sSet 3 (eCall F_number_in (aCons (eV 1) (aCons (eFn bLen (aCons (eBin2 oIx (eVb 0) (eC (.int 2))) (aNil))) (aNil))))) (sSeq (sIf (bOr (toB (eBin2 oIsN (eVb 3) (eC .non))) (toB (eBin2 oNe (eBin2 oIx (eBin2 oIx (eVb 0) (eC (.int 2))) (eVb 3)) (eC (.int 0))))) (sRt (eC .non)) (sNx)) (sSeq (sSet 4 (eCall F_number_in (aCons (eV 2) (aCons (eFn bLen (aCons (eBin2 oIx (eBin2 oIx (eVb 0) (eC (.int 3))) (eVb 3)) (aNil))) (aNil))))) (sRt (eIf (toB (eBin2 oIsN (eVb 4) (eC .non))) (eC .non) (eTup (aCons (eV 3) (aCons (eV 4) (aNil))))))))
def F_take_in : Fn := fnOf 5 g_take_in
theorem ok_take_in {P : Program} {w : World} {K : PySem.W.Frag} {mg : PySem.Str → Option Value} {base : Heap} (c : C K mg base) : OkD P w K mg base d_take_in ["plant", "near", "far"] 2 F_take_in :=
  OkD.mk (N := ["plant", "near", "far", "place", "position"]) (f := He.ga K "take_in") (fd := (c.says.def_ 18 (d := d_take_in) rfl).choose) (g := g_take_in) (c.glo 47 rfl) (c.says.def_ 18 (d := d_take_in) rfl).choose_spec sc_take_in fun cdv A outer s H E B hr hgd =>
    have hu0 := hr.units0; have hu := hr.units; have hu1 := u1_of hr; have hu65 := u65_of hr
    dss_cons (ds_set 3 (de_call (ok_number_in c) bp_number_in (hr.mono (by decide)) hgd (takes_of rfl rfl rfl rfl) (da_cons (de_v 1) (da_cons (de_bi call_len cb_len rfl (c.free 4 rfl) bo_len (dab_cons (db_of (de_ix (db_v 0) (db_of (de_int)))) (dab_nil))) (da_nil))) (ALen.cons (ALen.cons (ALen.nil))) rfl) sc_take_in.nd) (dss_cons (ds_if (dt_w (dw_or (dt_cmp2 op_isN opb_isN (db_v 3) (db_of (de_non))) (dw_or1 (dt_cmp2 (op_ne.or (op_neD hu)) opb_ne (db_of (de_ix (db_of (de_ix (db_v 0) (db_of (de_int)))) (db_v 3))) (db_of (de_int)))))) (dss_one (ds_ret (de_non))) (dss_nil)) (dss_cons (ds_set 4 (de_call (ok_number_in c) bp_number_in (hr.mono (by decide)) hgd (takes_of rfl rfl rfl rfl) (da_cons (de_v 2) (da_cons (de_bi call_len cb_len rfl (c.free 4 rfl) bo_len (dab_cons (db_of (de_ix (db_of (de_ix (db_v 0) (db_of (de_int)))) (db_v 3))) (dab_nil))) (da_nil))) (ALen.cons (ALen.cons (ALen.nil))) rfl) sc_take_in.nd) (dss_one (ds_ret (de_if (dt_cmp2 op_isN opb_isN (db_v 4) (db_of (de_non))) (de_non) (de_tup (da_cons (de_v 3) (da_cons (de_v 4) (da_nil)))))))))
theorem sc_step_in : FnScope ["plant", "many", "near", "far", "move", "late"] ["plant", "many", "near", "far"] d_step_in.scope := ⟨rfl, rfl, rfl, by decide +kernel, rfl, by decide +kernel, by decide +kernel⟩
def g_step_in : Es := sSeq (sPar [4, 5] (mVal (eCall F_number_in (aCons (eV 2) (aCons (eFn bLen (aCons (eCall F_moves_of (aCons (eV 0) (aNil))) (aNil))) (aNil)))) (mVal (eCall F_number_in (aCons (eV 3) (aCons (eV 1) (aNil)))) (mNil)))) (sRt (eIf (bOr (toB (eBin2 oIsN (eVb 4) (eC .non))) (toB (eBin2 oIsN (eVb 5) (eC .non)))) (eC .non) (eTup (aCons (eV 4) (aCons (eV 5) (aNil))))))
def F_step_in : Fn := fnOf 6 g_step_in
theorem ok_step_in {P : Program} {w : World} {K : PySem.W.Frag} {mg : PySem.Str → Option Value} {base : Heap} (c : C K mg base) : OkD P w K mg base d_step_in ["plant", "many", "near", "far"] 2 F_step_in :=
  OkD.mk (N := ["plant", "many", "near", "far", "move", "late"]) (f := He.ga K "step_in") (fd := (c.says.def_ 19 (d := d_step_in) rfl).choose) (g := g_step_in) (c.glo 48 rfl) (c.says.def_ 19 (d := d_step_in) rfl).choose_spec sc_step_in fun cdv A outer s H E B hr hgd =>
    have hu0 := hr.units0; have hu := hr.units; have hu1 := u1_of hr; have hu65 := u65_of hr
    dss_cons (ds_par2 (i := 4) (j := 5) rfl sc_step_in.nd (dm_val (de_call (ok_number_in c) bp_number_in (hr.mono (by decide)) hgd (takes_of rfl rfl rfl rfl) (da_cons (de_v 2) (da_cons (de_bi call_len cb_len rfl (c.free 4 rfl) bo_len (dab_cons (db_of (de_call (ok_moves_of c) bp_moves_of (hr.mono (by decide)) hgd (takes_of rfl rfl rfl rfl) (da_cons (de_v 0) (da_nil)) (ALen.cons (ALen.nil)) rfl)) (dab_nil))) (da_nil))) (ALen.cons (ALen.cons (ALen.nil))) rfl) (dm_val (de_call (ok_number_in c) bp_number_in (hr.mono (by decide)) hgd (takes_of rfl rfl rfl rfl) (da_cons (de_v 3) (da_cons (de_v 1) (da_nil))) (ALen.cons (ALen.cons (ALen.nil))) rfl) (dm_nil)))) (dss_one (ds_ret (de_if (dt_w (dw_or (dt_cmp2 op_isN opb_isN (db_v 4) (db_of (de_non))) (dw_or1 (dt_cmp2 op_isN opb_isN (db_v 5) (db_of (de_non)))))) (de_non) (de_tup (da_cons (de_v 4) (da_cons (de_v 5) (da_nil)))))))
theorem sc_line_in : FnScope ["plant", "many", "line", "words", "memory", "told"] ["plant", "many", "line"] d_line_in.scope := ⟨rfl, rfl, rfl, by decide +kernel, rfl, by decide +kernel, by decide +kernel⟩
def g_line_in : Es := sSeq (sSet 3 (eSplit (eV 2) (eC (.str " ")))) (sSeq (sIf (bOr (toB (eBin2 oNe (eFn bLen (aCons (eVb 3) (aNil))) (eC (.int 6)))) (bOr (toB (eBin2 oNe (eBin2 oIx (eVb 3) (eC (.int 0))) (eC (.str "in")))) (toB (eBin2 (oInT true) (eTup (aCons (eBin2 oIx (eVb 3) (eC (.int 2))) (aCons (eBin2 oIx (eVb 3) (eC (.int 4))) (aNil)))) (eTup (aCons (eTup (aCons (eC (.str "at")) (aCons (eC (.str "take")) (aNil)))) (aCons (eTup (aCons (eC (.str "after")) (aCons (eC (.str "go")) (aNil)))) (aNil)))))))) (sRt (eC .non)) (sNx)) (sSeq (sSet 4 (eIf (toB (eBin2 oEq (eBin2 oIx (eVb 3) (eC (.int 1))) (eC (.str "*")))) (eC .non) (eCall F_number_in (aCons (eBin2 oIx (eVb 3) (eC (.int 1))) (aCons (eV 1) (aNil)))))) (sSeq (sIf (bAnd (toB (eBin2 oIsN (eVb 4) (eC .non))) (toB (eBin2 oNe (eBin2 oIx (eVb 3) (eC (.int 1))) (eC (.str "*"))))) (sRt (eC .non)) (sNx)) (sSeq (sSet 5 (eIf (toB (eBin2 oEq (eBin2 oIx (eVb 3) (eC (.int 2))) (eC (.str "at")))) (eCall F_take_in (aCons (eV 0) (aCons (eBin2 oIx (eVb 3) (eC (.int 3))) (aCons (eBin2 oIx (eVb 3) (eC (.int 5))) (aNil))))) (eCall F_step_in (aCons (eV 0) (aCons (eV 1) (aCons (eBin2 oIx (eVb 3) (eC (.int 3))) (aCons (eBin2 oIx (eVb 3) (eC (.int 5))) (aNil)))))))) (sRt (eIf (toB (eBin2 oIsN (eVb 5) (eC .non))) (eC .non) (eBin2 oAdd (eTup (aCons (eBin2 oIx (eVb 3) (eC (.int 2))) (aCons (eV 4) (aNil)))) (eVb 5))))))))
def F_line_in : Fn := fnOf 6 g_line_in
theorem ok_line_in {P : Program} {w : World} {K : PySem.W.Frag} {mg : PySem.Str → Option Value} {base : Heap} (c : C K mg base) : OkD P w K mg base d_line_in ["plant", "many", "line"] 3 F_line_in :=
  OkD.mk (N := ["plant", "many", "line", "words", "memory", "told"]) (f := He.ga K "line_in") (fd := (c.says.def_ 20 (d := d_line_in) rfl).choose) (g := g_line_in) (c.glo 49 rfl) (c.says.def_ 20 (d := d_line_in) rfl).choose_spec sc_line_in fun cdv A outer s H E B hr hgd =>
    have hu0 := hr.units0; have hu := hr.units; have hu1 := u1_of hr; have hu65 := u65_of hr
    dss_cons (ds_set 3 (de_split (de_v 2) (de_str)) sc_line_in.nd) (dss_cons (ds_if (dt_w (dw_or (dt_cmp2 (op_ne.or (op_neD hu)) opb_ne (db_of (de_bi call_len cb_len rfl (c.free 4 rfl) bo_len (dab_cons (db_v 3) (dab_nil)))) (db_of (de_int))) (dw_or (dt_cmp2 (op_ne.or (op_neD hu)) opb_ne (db_of (de_ix (db_v 3) (db_of (de_int)))) (db_of (de_str))) (dw_or1 (dt_cmp2 (op_notInT hu65) (opb_inT true) (db_of (de_tup (da_cons (de_ix (db_v 3) (db_of (de_int))) (da_cons (de_ix (db_v 3) (db_of (de_int))) (da_nil))))) (db_of (de_tup (da_cons (de_tup (da_cons (de_str) (da_cons (de_str) (da_nil)))) (da_cons (de_tup (da_cons (de_str) (da_cons (de_str) (da_nil)))) (da_nil)))))))))) (dss_one (ds_ret (de_non))) (dss_nil)) (dss_cons (ds_set 4 (de_if (dt_cmp2 (op_eq.or (op_eqD hu)) opb_eq (db_of (de_ix (db_v 3) (db_of (de_int)))) (db_of (de_gs (c.str 17 rfl) rfl))) (de_non) (de_call (ok_number_in c) bp_number_in (hr.mono (by decide)) hgd (takes_of rfl rfl rfl rfl) (da_cons (de_ix (db_v 3) (db_of (de_int))) (da_cons (de_v 1) (da_nil))) (ALen.cons (ALen.cons (ALen.nil))) rfl)) sc_line_in.nd) (dss_cons (ds_if (dt_w (dw_and (dt_cmp2 op_isN opb_isN (db_v 4) (db_of (de_non))) (dw_and1 (dt_cmp2 (op_ne.or (op_neD hu)) opb_ne (db_of (de_ix (db_v 3) (db_of (de_int)))) (db_of (de_gs (c.str 17 rfl) rfl)))))) (dss_one (ds_ret (de_non))) (dss_nil)) (dss_cons (ds_set 5 (de_if (dt_cmp2 (op_eq.or (op_eqD hu)) opb_eq (db_of (de_ix (db_v 3) (db_of (de_int)))) (db_of (de_str))) (de_call (ok_take_in c) bp_take_in (hr.mono (by decide)) hgd (takes_of rfl rfl rfl rfl) (da_cons (de_v 0) (da_cons (de_ix (db_v 3) (db_of (de_int))) (da_cons (de_ix (db_v 3) (db_of (de_int))) (da_nil)))) (ALen.cons (ALen.cons (ALen.cons (ALen.nil)))) rfl) (de_call (ok_step_in c) bp_step_in (hr.mono (by decide)) hgd (takes_of rfl rfl rfl rfl) (da_cons (de_v 0) (da_cons (de_v 1) (da_cons (de_ix (db_v 3) (db_of (de_int))) (da_cons (de_ix (db_v 3) (db_of (de_int))) (da_nil))))) (ALen.cons (ALen.cons (ALen.cons (ALen.cons (ALen.nil))))) rfl)) sc_line_in.nd) (dss_one (ds_ret (de_if (dt_cmp2 op_isN opb_isN (db_v 5) (db_of (de_non))) (de_non) (de_add (db_of (de_tup (da_cons (de_ix (db_v 3) (db_of (de_int))) (da_cons (de_v 4) (da_nil))))) (db_v 5)))))))))
theorem sc_put_first : FnScope ["table", "keys", "thing", "key"] ["table", "keys", "thing"] d_put_first.scope := ⟨rfl, rfl, rfl, by decide +kernel, rfl, by decide +kernel, by decide +kernel⟩
def t1_put_first : Tgt := gV 3
def b1_put_first : Es := sSeq (sIf (bDIn true 0 (eV 3)) (DL.sDPut 0 (eV 3) (eV 2)) (sNx)) (sKill [3])
def g_put_first : Es := sFor (iSeq (eV 1)) (t1_put_first) (b1_put_first)
def F_put_first : Fn := fnOf 4 g_put_first
theorem ok_put_first {P : Program} {w : World} {K : PySem.W.Frag} {mg : PySem.Str → Option Value} {base : Heap} (c : C K mg base) : OkD P w K mg base d_put_first ["table", "keys", "thing"] 1 F_put_first :=
  OkD.mk (N := ["table", "keys", "thing", "key"]) (f := He.ga K "put_first") (fd := (c.says.def_ 21 (d := d_put_first) rfl).choose) (g := g_put_first) (c.glo 50 rfl) (c.says.def_ 21 (d := d_put_first) rfl).choose_spec sc_put_first fun cdv A outer s H E B hr hgd =>
    have hu0 := hr.units0; have hu := hr.units; have hu1 := u1_of hr; have hu65 := u65_of hr
    dss_one (ds_for (passes_of rfl) rfl (di_seq (de_v 1)) (dg_v 3 sc_put_first.nd) (dss_cons (ds_if (dt_dnin 0 hu1 (de_v 3)) (dss_one (ds_dput 0 hu1 (de_v 3) (de_v 2))) (dss_nil)) (dss_kill0 [3])))
theorem sc_tables_of : FnScope ["plant", "many", "rows", "takes", "nexts", "word", "memory", "near", "far", "keys", "one"] ["plant", "many", "rows"] d_tables_of.scope := ⟨rfl, rfl, rfl, by decide +kernel, rfl, by decide +kernel, by decide +kernel⟩
def lt1_tables_of : Tgt := gV 10
def lf1_tables_of : Ev D := eTup (aCons (eV 10) (aCons (eV 7) (aNil)))
def lc1_tables_of : Ev Bool := toB (eBin2 oIn (eVb 6) (eTup (aCons (eC .non) (aCons (eV 10) (aNil)))))
def t1_tables_of : Tgt := gT 4 (gConsR (gV 5) (gConsR (gV 6) (gConsR (gV 7) (gConsR (gV 8) (gNilR))))) ((gV 5).ix ++ ((gV 6).ix ++ ((gV 7).ix ++ ((gV 8).ix ++ []))))
def b1_tables_of : Es := sSeq (sSet 9 (eFrz (nLc (iRange (aCons (eV 1) (aNil))) [10] (lt1_tables_of) (lc1_tables_of) (lf1_tables_of)))) (sSeq (sDr (eCall F_put_first (aCons (eIf (toB (eBin2 oEq (eVb 5) (eC (.str "at")))) (eV 3) (eV 4)) (aCons (eV 9) (aCons (eV 8) (aNil)))))) (sKill [8, 9, 6, 7, 5]))
def g_tables_of : Es := sSeq (sPar [3, 4] (mNew (nDT) (mNew (nDT) (mNil)))) (sSeq (sPb 3) (sSeq (sPb 4) (sSeq (sFor (iSeq (eV 2)) (t1_tables_of) (b1_tables_of)) (sSeq (sKill [8, 9, 6, 7, 5]) (sRt (eTup (aCons (eV 3) (aCons (eV 4) (aNil)))))))))
def F_tables_of : Fn := fnOf 11 g_tables_of
theorem ok_tables_of {P : Program} {w : World} {K : PySem.W.Frag} {mg : PySem.Str → Option Value} {base : Heap} (c : C K mg base) : OkD P w K mg base d_tables_of ["plant", "many", "rows"] 2 F_tables_of :=
  OkD.mk (N := ["plant", "many", "rows", "takes", "nexts", "word", "memory", "near", "far", "keys", "one"]) (f := He.ga K "tables_of") (fd := (c.says.def_ 22 (d := d_tables_of) rfl).choose) (g := g_tables_of) (c.glo 51 rfl) (c.says.def_ 22 (d := d_tables_of) rfl).choose_spec sc_tables_of fun cdv A outer s H E B hr hgd =>
    have hu0 := hr.units0; have hu := hr.units; have hu1 := u1_of hr; have hu65 := u65_of hr
    dss_cons (ds_par2 (i := 3) (j := 4) rfl sc_tables_of.nd (dm_new (dn_dT) (dm_new (dn_dT) (dm_nil)))) (dss_pb (dss_pb (dss_cons (ds_for (passes_of rfl) rfl (di_seq (de_v 2)) (dg_t rfl (dgs_cons (dg_v 5 sc_tables_of.nd) (dgs_cons (dg_v 6 sc_tables_of.nd) (dgs_cons (dg_v 7 sc_tables_of.nd) (dgs_cons (dg_v 8 sc_tables_of.nd) (dgs_nil)))))) (dss_cons (ds_setLc (i := 9) [("one", 10)] rfl sc_tables_of.nd (dj_of (di_range1 (da_cons (de_v 1) (da_nil)) (ALen.cons (ALen.nil)) rfl (c.free 18 rfl))) (blk_of (N := ["plant", "many", "rows", "takes", "nexts", "word", "memory", "near", "far", "keys", "one"]) (sc := d_tables_of.scope) (by decide +kernel)) (by decide) (fun _ _ _ _ _ => dg_v 10 sc_tables_of.nd) (fun _ _ _ _ _ => dts_one (dt_cmp2 (op_in_seq.or (op_inD hu65)) opb_in (db_v 6) (db_of (de_tup (da_cons (de_non) (da_cons (de_v 10) (da_nil))))))) (fun _ _ _ _ _ => de_tup (da_cons (de_v 10) (da_cons (de_v 7) (da_nil)))) (sw_true rfl rfl rfl rfl)) (dss_cons (ds_expr (de_call (ok_put_first c) bp_put_first (hr.mono (by decide)) hgd (takes_of rfl rfl rfl rfl) (da_cons (de_if (dt_cmp2 (op_eq.or (op_eqD hu)) opb_eq (db_v 5) (db_of (de_str))) (de_v 3) (de_v 4)) (da_cons (de_v 9) (da_cons (de_v 8) (da_nil)))) (ALen.cons (ALen.cons (ALen.cons (ALen.nil)))) rfl)) (dss_kill0 [8, 9, 6, 7, 5])))) (dss_kill [8, 9, 6, 7, 5] (dss_one (ds_ret (de_tup (da_cons (de_v 3) (da_cons (de_v 4) (da_nil))))))))))
theorem sc_hand_in : FnScope ["plant", "text", "lines", "is_ended", "many", "rows", "at", "line", "told", "takes", "nexts", "own", "memory", "late", "place", "owner", "move"] ["plant", "text"] d_hand_in.scope := ⟨rfl, rfl, rfl, by decide +kernel, rfl, by decide +kernel, by decide +kernel⟩
def t1_hand_in : Tgt := gT 2 (gConsR (gV 6) (gConsR (gV 7) (gNilR))) ((gV 6).ix ++ ((gV 7).ix ++ []))
def b1_hand_in : Es := sSeq (sSet 8 (eCall F_line_in (aCons (eV 0) (aCons (eV 4) (aCons (eV 7) (aNil)))))) (sSeq (sIf (toB (eBin2 oIsN (eVb 8) (eC .non))) (sRaise1 "BadText" "line" (aCons (eBin2 oAdd (eVb 6) (eC (.int 1))) (aNil))) (sNx)) (sSeq (sMu 5 mApp (eV 8)) (sKill [6, 7, 8])))
def lt1_hand_in : Tgt := gT 2 (gConsR (gV 14) (gConsR (gV 15) (gNilR))) ((gV 14).ix ++ ((gV 15).ix ++ []))
def lf1_hand_in : Ev D := eV 14
def lc1_hand_in : Ev Bool := toB (eBin2 oEq (eVb 15) (eC (.int 0)))
def lt2_hand_in : Tgt := gV 14
def lf2_hand_in : Ev D := ofB (bDIn false 9 (eTup (aCons (eV 12) (aCons (eV 14) (aNil)))))
def t2_hand_in : Tgt := gV 12
def b2_hand_in : Es := sSeq (sIf (bNot (toB (eFn bAll (aCons (eFrz (nLc (iSeq (eV 11)) [14] (lt2_hand_in) (bYes) (lf2_hand_in))) (aNil))))) (sRaise1 "BadText" "line" (aCons (eFn bLen (aCons (eVb 2) (aNil))) (aNil))) (sNx)) (sKill [12])
def lt3_hand_in : Tgt := gV 14
def lf3_hand_in : Ev D := eDGet2 9 (eTup (aCons (eV 12) (aCons (eV 14) (aNil)))) (eC .non)
def lt4_hand_in : Tgt := gV 12
def lf4_hand_in : Ev D := eFn bTup (aCons (eFrz (nLc (iRange (aCons (eFn bLen (aCons (eBin2 oIx (eVb 0) (eC (.int 2))) (aNil))) (aNil))) [14] (lt3_hand_in) (bYes) (lf3_hand_in))) (aNil))
def lt5_hand_in : Tgt := gV 16
def lf5_hand_in : Ev D := eDGet2 10 (eTup (aCons (eV 12) (aCons (eV 16) (aNil)))) (eV 12)
def t3_hand_in : Tgt := gV 12
def b3_hand_in : Es := sSeq (sMu 13 mApp (eFn bTup (aCons (eFrz (nLc (iRange (aCons (eFn bLen (aCons (eCall F_moves_of (aCons (eV 0) (aNil))) (aNil))) (aNil))) [16] (lt5_hand_in) (bYes) (lf5_hand_in))) (aNil)))) (sKill [12])
def g_hand_in : Es := sSeq (sSet 2 (eSplit (eV 1) (eC (.str "\n")))) (sSeq (sPar [3, 2] (mVal (eBin2 oEq (eBin2 oIx (eVb 2) (eNeg (eC (.int 1)))) (eC (.str ""))) (mVal (eIf (toB (eBin2 oNe (eBin2 oIx (eVb 2) (eNeg (eC (.int 1)))) (eC (.str "")))) (eV 2) (eSl (eVb 2) (pNo) (pAt (eNeg (eC (.int 1)))))) (mNil)))) (sSeq (sPar [4, 5] (mVal (eIf (toB (eBin2 oNe (eVb 2) (eFrz (nLst (aNil))))) (eCall F_memories_in (aCons (eBin2 oIx (eVb 2) (eC (.int 0))) (aNil))) (eC .non)) (mNew (nLst (aNil)) (mNil)))) (sSeq (sIf (toB (eBin2 oIsN (eVb 4) (eC .non))) (sRaise1 "BadText" "line" (aCons (eC (.int 0)) (aNil))) (sNx)) (sSeq (sFor (iVia enumOf (aCons (eSl (eVb 2) (pAt (eC (.int 1))) (pNo)) (aNil))) (t1_hand_in) (b1_hand_in)) (sSeq (sFz 5) (sSeq (sKill [6, 7, 8]) (sSeq (sUnp (gT 2 (gConsR (gV 9) (gConsR (gV 10) (gNilR))) ((gV 9).ix ++ ((gV 10).ix ++ []))) (eCall F_tables_of (aCons (eV 0) (aCons (eV 4) (aCons (eV 5) (aNil)))))) (sSeq (sSet 11 (eFrz (nLc (iVia enumOf (aCons (eBin2 oIx (eVb 0) (eC (.int 2))) (aNil))) [14, 15] (lt1_hand_in) (lc1_hand_in) (lf1_hand_in)))) (sSeq (sFor (iRange (aCons (eV 4) (aNil))) (t2_hand_in) (b2_hand_in)) (sSeq (sKill [12]) (sSeq (sIf (bNot (toB (eV 3))) (sRaise1 "BadText" "line" (aCons (eBin2 oSub (eFn bLen (aCons (eVb 2) (aNil))) (eC (.int 1))) (aNil))) (sNx)) (sSeq (sSet 8 (eFrz (nLc (iRange (aCons (eV 4) (aNil))) [12] (lt4_hand_in) (bYes) (lf4_hand_in)))) (sSeq (sNew 13 (nLst (aNil))) (sSeq (sFor (iRange (aCons (eV 4) (aNil))) (t3_hand_in) (b3_hand_in)) (sSeq (sFz 13) (sSeq (sKill [12]) (sRt (eTup (aCons (eC (.str "hand")) (aCons (eFn bTup (aCons (eVb 8) (aNil))) (aCons (eFn bTup (aCons (eVb 13) (aNil))) (aNil))))))))))))))))))))))
def F_hand_in : Fn := fnOf 17 g_hand_in
theorem ok_hand_in {P : Program} {w : World} {K : PySem.W.Frag} {mg : PySem.Str → Option Value} {base : Heap} (c : C K mg base) : OkD P w K mg base d_hand_in ["plant", "text"] 4 F_hand_in :=
  OkD.mk (N := ["plant", "text", "lines", "is_ended", "many", "rows", "at", "line", "told", "takes", "nexts", "own", "memory", "late", "place", "owner", "move"]) (f := He.ga K "hand_in") (fd := (c.says.def_ 23 (d := d_hand_in) rfl).choose) (g := g_hand_in) (c.glo 52 rfl) (c.says.def_ 23 (d := d_hand_in) rfl).choose_spec sc_hand_in fun cdv A outer s H E B hr hgd =>
    have hu0 := hr.units0; have hu := hr.units; have hu1 := u1_of hr; have hu65 := u65_of hr
    dss_cons (ds_set 2 (de_split (de_v 1) (de_str)) sc_hand_in.nd) (dss_cons (ds_par2 (i := 3) (j := 2) rfl sc_hand_in.nd (dm_val (de_cmp2 (op_eq.or (op_eqD hu)) opb_eq (db_of (de_ix (db_v 2) (db_of (de_neg (de_int))))) (db_of (de_str))) (dm_val (de_if (dt_cmp2 (op_ne.or (op_neD hu)) opb_ne (db_of (de_ix (db_v 2) (db_of (de_neg (de_int))))) (db_of (de_str))) (de_v 2) (de_sl (db_v 2) (do_no) (do_at (db_of (de_neg (de_int)))))) (dm_nil)))) (dss_cons (ds_par2 (i := 4) (j := 5) rfl sc_hand_in.nd (dm_val (de_if (dt_cmp2 (op_ne.or (op_neD hu)) opb_ne (db_v 2) (db_of (de_frz (dn_lst (da_nil))))) (de_call (ok_memories_in c) bp_memories_in (hr.mono (by decide)) hgd (takes_of rfl rfl rfl rfl) (da_cons (de_ix (db_v 2) (db_of (de_int))) (da_nil)) (ALen.cons (ALen.nil)) rfl) (de_non)) (dm_new (dn_lst (da_nil)) (dm_nil)))) (dss_cons (ds_if (dt_cmp2 op_isN opb_isN (db_v 4) (db_of (de_non))) (dss_one (ds_raise1 rfl (takes_of rfl rfl rfl rfl) (c.t_BadText) (c.i_BadText) (c.f_BadText) (okI_BadText c) (hr.mono (by decide)) (bI_BadText c) rfl (c.glo 19 rfl) (da_cons (de_int) (da_nil)))) (dss_nil)) (dss_cons (ds_for (passes_of rfl) rfl (di_enum (da_cons (de_sl (db_v 2) (do_at (db_of (de_int))) (do_no)) (da_nil)) rfl (c.free 14 rfl)) (dg_t rfl (dgs_cons (dg_v 6 sc_hand_in.nd) (dgs_cons (dg_v 7 sc_hand_in.nd) (dgs_nil)))) (dss_cons (ds_set 8 (de_call (ok_line_in c) bp_line_in (hr.mono (by decide)) hgd (takes_of rfl rfl rfl rfl) (da_cons (de_v 0) (da_cons (de_v 4) (da_cons (de_v 7) (da_nil)))) (ALen.cons (ALen.cons (ALen.cons (ALen.nil)))) rfl) sc_hand_in.nd) (dss_cons (ds_if (dt_cmp2 op_isN opb_isN (db_v 8) (db_of (de_non))) (dss_one (ds_raise1 rfl (takes_of rfl rfl rfl rfl) (c.t_BadText) (c.i_BadText) (c.f_BadText) (okI_BadText c) (hr.mono (by decide)) (bI_BadText c) rfl (c.glo 19 rfl) (da_cons (de_add (db_v 6) (db_of (de_int))) (da_nil)))) (dss_nil)) (dss_cons (ds_app 5 (de_v 8)) (dss_kill0 [6, 7, 8]))))) (dss_fz (dss_kill [6, 7, 8] (dss_cons (ds_unp (de_call (ok_tables_of c) bp_tables_of (hr.mono (by decide)) hgd (takes_of rfl rfl rfl rfl) (da_cons (de_v 0) (da_cons (de_v 4) (da_cons (de_v 5) (da_nil)))) (ALen.cons (ALen.cons (ALen.cons (ALen.nil)))) rfl) (dg_t rfl (dgs_cons (dg_v 9 sc_hand_in.nd) (dgs_cons (dg_v 10 sc_hand_in.nd) (dgs_nil))))) (dss_cons (ds_setLc (i := 11) [("place", 14), ("owner", 15)] rfl sc_hand_in.nd (dj_of (di_enum (da_cons (de_ix (db_v 0) (db_of (de_int))) (da_nil)) rfl (c.free 14 rfl))) (blk_of (N := ["plant", "text", "lines", "is_ended", "many", "rows", "at", "line", "told", "takes", "nexts", "own", "memory", "late", "place", "owner", "move"]) (sc := d_hand_in.scope) (by decide +kernel)) (by decide) (fun _ _ _ _ _ => dg_t rfl (dgs_cons (dg_v 14 sc_hand_in.nd) (dgs_cons (dg_v 15 sc_hand_in.nd) (dgs_nil)))) (fun _ _ _ _ _ => dts_one (dt_cmp2 (op_eq.or (op_eqD hu)) opb_eq (db_v 15) (db_of (de_int)))) (fun _ _ _ _ _ => de_v 14) (sw_true rfl rfl rfl rfl)) (dss_cons (ds_for (passes_of rfl) rfl (di_range1 (da_cons (de_v 4) (da_nil)) (ALen.cons (ALen.nil)) rfl (c.free 18 rfl)) (dg_v 12 sc_hand_in.nd) (dss_cons (ds_if (dt_not (dt_val (de_bi (cr_all rfl) cb_all rfl (c.free 6 rfl) bo_all (dab_cons (db_of (de_frz (dn_lc [("place", 14)] rfl sc_hand_in.nd (dj_of (di_seq (de_v 11))) (blk_of (N := ["plant", "text", "lines", "is_ended", "many", "rows", "at", "line", "told", "takes", "nexts", "own", "memory", "late", "place", "owner", "move"]) (sc := d_hand_in.scope) (by decide +kernel)) (by decide) (fun _ _ _ _ _ => dg_v 14 sc_hand_in.nd) (fun _ _ _ _ _ => dts_nil) (fun _ _ _ _ _ => de_din 9 hu1 (de_tup (da_cons (de_v 12) (da_cons (de_v 14) (da_nil)))))))) (dab_nil))))) (dss_one (ds_raise1 rfl (takes_of rfl rfl rfl rfl) (c.t_BadText) (c.i_BadText) (c.f_BadText) (okI_BadText c) (hr.mono (by decide)) (bI_BadText c) rfl (c.glo 19 rfl) (da_cons (de_bi call_len cb_len rfl (c.free 4 rfl) bo_len (dab_cons (db_v 2) (dab_nil))) (da_nil)))) (dss_nil)) (dss_kill0 [12]))) (dss_kill [12] (dss_cons (ds_if (dt_not (dt_val (de_v 3))) (dss_one (ds_raise1 rfl (takes_of rfl rfl rfl rfl) (c.t_BadText) (c.i_BadText) (c.f_BadText) (okI_BadText c) (hr.mono (by decide)) (bI_BadText c) rfl (c.glo 19 rfl) (da_cons (de_sub (db_of (de_bi call_len cb_len rfl (c.free 4 rfl) bo_len (dab_cons (db_v 2) (dab_nil)))) (db_of (de_int))) (da_nil)))) (dss_nil)) (dss_cons (ds_setLc (i := 8) [("memory", 12)] rfl sc_hand_in.nd (dj_of (di_range1 (da_cons (de_v 4) (da_nil)) (ALen.cons (ALen.nil)) rfl (c.free 18 rfl))) (blk_of (N := ["plant", "text", "lines", "is_ended", "many", "rows", "at", "line", "told", "takes", "nexts", "own", "memory", "late", "place", "owner", "move"]) (sc := d_hand_in.scope) (by decide +kernel)) (by decide) (fun _ _ _ _ _ => dg_v 12 sc_hand_in.nd) (fun _ _ _ _ _ => dts_nil) (fun _ _ _ _ _ => de_ty call_tuple_of cb_tup rfl (c.free 3 rfl) bo_tuple (dab_cons (db_of (de_frz (dn_lc [("place", 14)] rfl sc_hand_in.nd (dj_of (di_range1 (da_cons (de_bi call_len cb_len rfl (c.free 4 rfl) bo_len (dab_cons (db_of (de_ix (db_v 0) (db_of (de_int)))) (dab_nil))) (da_nil)) (ALen.cons (ALen.nil)) rfl (c.free 18 rfl))) (blk_of (N := ["plant", "text", "lines", "is_ended", "many", "rows", "at", "line", "told", "takes", "nexts", "own", "memory", "late", "place", "owner", "move"]) rfl) (by decide) (fun _ _ _ _ _ => dg_v 14 sc_hand_in.nd) (fun _ _ _ _ _ => dts_nil) (fun _ _ _ _ _ => de_dget2 9 hu1 (de_tup (da_cons (de_v 12) (da_cons (de_v 14) (da_nil)))) (de_non))))) (dab_nil))) (sw_true rfl rfl rfl rfl)) (dss_cons (ds_new 13 (dn_lst (da_nil)) sc_hand_in.nd) (dss_cons (ds_for (passes_of rfl) rfl (di_range1 (da_cons (de_v 4) (da_nil)) (ALen.cons (ALen.nil)) rfl (c.free 18 rfl)) (dg_v 12 sc_hand_in.nd) (dss_cons (ds_app 13 (de_ty call_tuple_of cb_tup rfl (c.free 3 rfl) bo_tuple (dab_cons (db_of (de_frz (dn_lc [("move", 16)] rfl sc_hand_in.nd (dj_of (di_range1 (da_cons (de_bi call_len cb_len rfl (c.free 4 rfl) bo_len (dab_cons (db_of (de_call (ok_moves_of c) bp_moves_of (hr.mono (by decide)) hgd (takes_of rfl rfl rfl rfl) (da_cons (de_v 0) (da_nil)) (ALen.cons (ALen.nil)) rfl)) (dab_nil))) (da_nil)) (ALen.cons (ALen.nil)) rfl (c.free 18 rfl))) (blk_of (N := ["plant", "text", "lines", "is_ended", "many", "rows", "at", "line", "told", "takes", "nexts", "own", "memory", "late", "place", "owner", "move"]) (sc := d_hand_in.scope) (by decide +kernel)) (by decide) (fun _ _ _ _ _ => dg_v 16 sc_hand_in.nd) (fun _ _ _ _ _ => dts_nil) (fun _ _ _ _ _ => de_dget2 10 hu1 (de_tup (da_cons (de_v 12) (da_cons (de_v 16) (da_nil)))) (de_v 12))))) (dab_nil)))) (dss_kill0 [12]))) (dss_fz (dss_kill [12] (dss_one (ds_ret (de_tup (da_cons (de_str) (da_cons (de_ty call_tuple_of cb_tup rfl (c.free 3 rfl) bo_tuple (dab_cons (db_v 8) (dab_nil))) (da_cons (de_ty call_tuple_of cb_tup rfl (c.free 3 rfl) bo_tuple (dab_cons (db_v 13) (dab_nil))) (da_nil)))))))))))))))))))))))
theorem sc_hand_text : FnScope ["plant", "hand", "line"] ["plant", "hand"] d_hand_text.scope := ⟨rfl, rfl, rfl, by decide +kernel, rfl, by decide +kernel, by decide +kernel⟩
def lt1_hand_text : Tgt := gV 2
def lf1_hand_text : Ev D := eBin2 oAdd (eVb 2) (eC (.str "\n"))
def g_hand_text : Es := sSeq (sDr (eCall F_want_hand (aCons (eCall F_want_plant (aCons (eV 0) (aNil))) (aCons (eV 1) (aNil))))) (sRt (eJoin (eC (.str "")) (eFrz (nLc (iSeq (eCall F_lines_of (aCons (eV 0) (aCons (eV 1) (aNil))))) [2] (lt1_hand_text) (bYes) (lf1_hand_text)))))
def F_hand_text : Fn := fnOf 3 g_hand_text
theorem ok_hand_text {P : Program} {w : World} {K : PySem.W.Frag} {mg : PySem.Str → Option Value} {base : Heap} (c : C K mg base) : OkD P w K mg base d_hand_text ["plant", "hand"] 8 F_hand_text :=
  OkD.mk (N := ["plant", "hand", "line"]) (f := He.ga K "hand_text") (fd := (c.says.def_ 24 (d := d_hand_text) rfl).choose) (g := g_hand_text) (c.glo 53 rfl) (c.says.def_ 24 (d := d_hand_text) rfl).choose_spec sc_hand_text fun cdv A outer s H E B hr hgd =>
    have hu0 := hr.units0; have hu := hr.units; have hu1 := u1_of hr; have hu65 := u65_of hr
    dss_cons (ds_expr (de_call (ok_want_hand c) bp_want_hand (hr.mono (by decide)) hgd (takes_of rfl rfl rfl rfl) (da_cons (de_call (ok_want_plant c) bp_want_plant (hr.mono (by decide)) hgd (takes_of rfl rfl rfl rfl) (da_cons (de_v 0) (da_nil)) (ALen.cons (ALen.nil)) rfl) (da_cons (de_v 1) (da_nil))) (ALen.cons (ALen.cons (ALen.nil))) rfl)) (dss_one (ds_ret (de_join (de_str) (db_of (de_frz (dn_lc [("line", 2)] rfl sc_hand_text.nd (dj_of (di_seq (de_call (ok_lines_of c) bp_lines_of (hr.mono (by decide)) hgd (takes_of rfl rfl rfl rfl) (da_cons (de_v 0) (da_cons (de_v 1) (da_nil))) (ALen.cons (ALen.cons (ALen.nil))) rfl))) (blk_of (N := ["plant", "hand", "line"]) (sc := d_hand_text.scope) (by decide +kernel)) (by decide) (fun _ _ _ _ _ => dg_v 2 sc_hand_text.nd) (fun _ _ _ _ _ => dts_nil) (fun _ _ _ _ _ => de_add (db_v 2) (db_of (de_str)))))))))
theorem sc_hand_of_text : FnScope ["plant", "text"] ["plant", "text"] d_hand_of_text.scope := ⟨rfl, rfl, rfl, by decide +kernel, rfl, by decide +kernel, by decide +kernel⟩
def g_hand_of_text : Es := sSeq (sDr (eCall F_want_plant (aCons (eV 0) (aNil)))) (sSeq (sIf (bNot (toB (eFn (bIsi .str) (aCons (eVb 1) (aCons (eTy .str) (aNil)))))) (sRaise1 "InvalidText" "value" (aCons (eV 1) (aNil))) (sNx)) (sRt (eCall F_hand_in (aCons (eV 0) (aCons (eV 1) (aNil))))))
def F_hand_of_text : Fn := fnOf 2 g_hand_of_text
theorem ok_hand_of_text {P : Program} {w : World} {K : PySem.W.Frag} {mg : PySem.Str → Option Value} {base : Heap} (c : C K mg base) : OkD P w K mg base d_hand_of_text ["plant", "text"] 8 F_hand_of_text :=
  OkD.mk (N := ["plant", "text"]) (f := He.ga K "hand_of_text") (fd := (c.says.def_ 25 (d := d_hand_of_text) rfl).choose) (g := g_hand_of_text) (c.glo 54 rfl) (c.says.def_ 25 (d := d_hand_of_text) rfl).choose_spec sc_hand_of_text fun cdv A outer s H E B hr hgd =>
    have hu0 := hr.units0; have hu := hr.units; have hu1 := u1_of hr; have hu65 := u65_of hr
    dss_cons (ds_expr (de_call (ok_want_plant c) bp_want_plant (hr.mono (by decide)) hgd (takes_of rfl rfl rfl rfl) (da_cons (de_v 0) (da_nil)) (ALen.cons (ALen.nil)) rfl)) (dss_cons (ds_if (dt_not (dt_val (de_bi call_isi (cb_isi .str) rfl (c.free 0 rfl) bo_isinstance (dab_cons (db_v 1) (dab_cons (db_ty .str rfl (c.free 9 rfl) bo_str) (dab_nil)))))) (dss_one (ds_raise1 rfl (takes_of rfl rfl rfl rfl) (c.t_InvalidText) (c.i_InvalidText) (c.f_InvalidText) (okI_InvalidText c) (hr.mono (by decide)) (bI_InvalidText c) rfl (c.glo 20 rfl) (da_cons (de_v 1) (da_nil)))) (dss_nil)) (dss_one (ds_ret (de_call (ok_hand_in c) bp_hand_in (hr.mono (by decide)) hgd (takes_of rfl rfl rfl rfl) (da_cons (de_v 0) (da_cons (de_v 1) (da_nil))) (ALen.cons (ALen.cons (ALen.nil))) rfl))))
theorem sc__law_pot : FnScope ["script", "k", "cell"] ["script", "k"] d__law_pot.scope := ⟨rfl, rfl, rfl, by decide +kernel, rfl, by decide +kernel, by decide +kernel⟩
def g__law_pot : Es := sSeq (sSet 2 (eIf (toB (eBin2 oLt (eVb 1) (eFn bLen (aCons (eVb 0) (aNil))))) (eFn bAbs (aCons (eBin2 oIx (eVb 0) (eVb 1)) (aNil))) (eBin2 oAdd (eBin2 oMul (eC (.int 743)) (eVb 1)) (eC (.int 113))))) (sRt (ePb (nLst (aCons (eFn bMax2 (aCons (eC (.int 0)) (aCons (eBin2 oSub (eVb 2) (eBin2 oPow (eC (.int 10)) (eC (.int 18)))) (aNil)))) (aCons (eBin2 oAdd (eBin2 oMod (eFn bIntS (aCons (eBin2 oAdd (eBin2 oAdd (eBin2 oMul (eBin2 oMod (eFn bIntS (aCons (eVb 2) (aNil))) (eC (.int 2147483549))) (eC (.int 40014))) (eBin2 oMul (eC (.int 6163)) (eVb 1))) (eC (.int 457))) (aNil))) (eC (.int 2147483563))) (eC (.int 1))) (aNil))))))
def F__law_pot : Fn := fnOf 3 g__law_pot
theorem ok__law_pot {P : Program} {w : World} {K : PySem.W.Frag} {mg : PySem.Str → Option Value} {base : Heap} (c : C K mg base) : OkD P w K mg base d__law_pot ["script", "k"] 1 F__law_pot :=
  OkD.mk (N := ["script", "k", "cell"]) (f := He.ga K "_law_pot") (fd := (c.says.def_ 26 (d := d__law_pot) rfl).choose) (g := g__law_pot) (c.glo 55 rfl) (c.says.def_ 26 (d := d__law_pot) rfl).choose_spec sc__law_pot fun cdv A outer s H E B hr hgd =>
    have hu0 := hr.units0; have hu := hr.units; have hu1 := u1_of hr; have hu65 := u65_of hr
    dss_cons (ds_set 2 (de_if (dt_cmp2 (op_lt.or (op_ltT hu0)) opb_lt (db_v 1) (db_of (de_bi call_len cb_len rfl (c.free 4 rfl) bo_len (dab_cons (db_v 0) (dab_nil))))) (de_bi call_abs cb_abs rfl (c.free 21 rfl) bo_abs (dab_cons (db_of (de_ix (db_v 0) (db_v 1))) (dab_nil))) (de_add (db_of (de_mul (db_of (de_int)) (db_v 1))) (db_of (de_int)))) sc__law_pot.nd) (dss_one (ds_ret (de_pb (dn_lst (da_cons (de_bi (call_max2 rfl) cb_max2 rfl (c.free 22 rfl) bo_max (dab_cons (db_of (de_int)) (dab_cons (db_of (de_sub (db_v 2) (db_of (de_pow (db_of (de_int)) (db_of (de_int)))))) (dab_nil)))) (da_cons (de_add (db_of (de_mod (db_of (de_ty call_intS cb_intS rfl (c.free 1 rfl) bo_int (dab_cons (db_of (de_add (db_of (de_add (db_of (de_mul (db_of (de_mod (db_of (de_ty call_intS cb_intS rfl (c.free 1 rfl) bo_int (dab_cons (db_v 2) (dab_nil)))) (db_of (de_int)))) (db_of (de_int)))) (db_of (de_mul (db_of (de_int)) (db_v 1))))) (db_of (de_int)))) (dab_nil)))) (db_of (de_int)))) (db_of (de_int))) (da_nil)))))))
theorem sc__law_draw : FnScope ["pot", "many", "digit"] ["pot", "many"] d__law_draw.scope := ⟨rfl, rfl, rfl, by decide +kernel, rfl, by decide +kernel, by decide +kernel⟩
def g__law_draw : Es := sSeq (sIf (toB (eBin2 oGt (eBin2 oIx (eVb 0) (eC (.int 0))) (eC (.int 0)))) (sSeq (sPot 0 2 0 (eFn bDm (aCons (eBin2 oIx (eVb 0) (eC (.int 0))) (aCons (eVb 1) (aNil))))) (sRt (eV 2))) (sNx)) (sSeq (sIPut 0 (eC (.int 1)) (eBin2 oMod (eFn bIntS (aCons (eBin2 oAdd (eBin2 oMul (eBin2 oIx (eVb 0) (eC (.int 1))) (eC (.int 40692))) (eC (.int 9293))) (aNil))) (eC (.int 2147483587)))) (sRt (eBin2 oMod (eFn bIntS (aCons (eBin2 oFdv (eBin2 oMod (eFn bIntS (aCons (eBin2 oMul (eBin2 oIx (eVb 0) (eC (.int 1))) (eBin2 oIx (eVb 0) (eC (.int 1)))) (aNil))) (eC (.int 2147483549))) (eC (.int 17))) (aNil))) (eVb 1))))
def F__law_draw : Fn := fnOf 3 g__law_draw
theorem ok__law_draw {P : Program} {w : World} {K : PySem.W.Frag} {mg : PySem.Str → Option Value} {base : Heap} (c : C K mg base) : OkD P w K mg base d__law_draw ["pot", "many"] 1 F__law_draw :=
  OkD.mk (N := ["pot", "many", "digit"]) (f := He.ga K "_law_draw") (fd := (c.says.def_ 27 (d := d__law_draw) rfl).choose) (g := g__law_draw) (c.glo 56 rfl) (c.says.def_ 27 (d := d__law_draw) rfl).choose_spec sc__law_draw fun cdv A outer s H E B hr hgd =>
    have hu0 := hr.units0; have hu := hr.units; have hu1 := u1_of hr; have hu65 := u65_of hr
    dss_cons (ds_if (dt_cmp2 op_gt opb_gt (db_of (de_ix (db_v 0) (db_of (de_int)))) (db_of (de_int))) (dss_cons (ds_pot 0 2 0 rfl (de_bi call_divmod cb_dm rfl (c.free 23 rfl) bo_divmod (dab_cons (db_of (de_ix (db_v 0) (db_of (de_int)))) (dab_cons (db_v 1) (dab_nil)))) sc__law_draw.nd) (dss_one (ds_ret (de_v 2)))) (dss_nil)) (dss_cons (ds_iput 0 (de_int) (de_mod (db_of (de_ty call_intS cb_intS rfl (c.free 1 rfl) bo_int (dab_cons (db_of (de_add (db_of (de_mul (db_of (de_ix (db_v 0) (db_of (de_int)))) (db_of (de_int)))) (db_of (de_int)))) (dab_nil)))) (db_of (de_int)))) (dss_one (ds_ret (de_mod (db_of (de_ty call_intS cb_intS rfl (c.free 1 rfl) bo_int (dab_cons (db_of (de_fdv (db_of (de_mod (db_of (de_ty call_intS cb_intS rfl (c.free 1 rfl) bo_int (dab_cons (db_of (de_mul (db_of (de_ix (db_v 0) (db_of (de_int)))) (db_of (de_ix (db_v 0) (db_of (de_int)))))) (dab_nil)))) (db_of (de_int)))) (db_of (de_int)))) (dab_nil)))) (db_v 1)))))
theorem sc__law_pick : FnScope ["pot", "some"] ["pot", "some"] d__law_pick.scope := ⟨rfl, rfl, rfl, by decide +kernel, rfl, by decide +kernel, by decide +kernel⟩
def g__law_pick : Es := sRt (eBin2 oIx (eVb 1) (eCall F__law_draw (aCons (eV 0) (aCons (eFn bLen (aCons (eVb 1) (aNil))) (aNil)))))
def F__law_pick : Fn := fnOf 2 g__law_pick
theorem ok__law_pick {P : Program} {w : World} {K : PySem.W.Frag} {mg : PySem.Str → Option Value} {base : Heap} (c : C K mg base) : OkD P w K mg base d__law_pick ["pot", "some"] 2 F__law_pick :=
  OkD.mk (N := ["pot", "some"]) (f := He.ga K "_law_pick") (fd := (c.says.def_ 28 (d := d__law_pick) rfl).choose) (g := g__law_pick) (c.glo 57 rfl) (c.says.def_ 28 (d := d__law_pick) rfl).choose_spec sc__law_pick fun cdv A outer s H E B hr hgd =>
    have hu0 := hr.units0; have hu := hr.units; have hu1 := u1_of hr; have hu65 := u65_of hr
    dss_one (ds_ret (de_ix (db_v 1) (db_of (de_call (ok__law_draw c) bp__law_draw (hr.mono (by decide)) hgd (takes_of rfl rfl rfl rfl) (da_cons (de_v 0) (da_cons (de_bi call_len cb_len rfl (c.free 4 rfl) bo_len (dab_cons (db_v 1) (dab_nil))) (da_nil))) (ALen.cons (ALen.cons (ALen.nil))) rfl))))
theorem sc__law_moves : FnScope ["plant", "found", "place", "some", "letter", "to"] ["plant"] d__law_moves.scope := ⟨rfl, rfl, rfl, by decide +kernel, rfl, by decide +kernel, by decide +kernel⟩
def lt1__law_moves : Tgt := gT 2 (gConsR (gV 4) (gConsR (gV 5) (gNilR))) ((gV 4).ix ++ ((gV 5).ix ++ []))
def lf1__law_moves : Ev D := eTup (aCons (eV 2) (aCons (eV 4) (aCons (eV 5) (aNil))))
def t1__law_moves : Tgt := gT 2 (gConsR (gV 2) (gConsR (gV 3) (gNilR))) ((gV 2).ix ++ ((gV 3).ix ++ []))
def b1__law_moves : Es := sSeq (sMu 1 mExt (eFrz (nLc (iSeq (eV 3)) [4, 5] (lt1__law_moves) (bYes) (lf1__law_moves)))) (sKill [2, 3])
def g__law_moves : Es := sSeq (sNew 1 (nLst (aNil))) (sSeq (sFor (iVia enumOf (aCons (eBin2 oIx (eVb 0) (eC (.int 3))) (aNil))) (t1__law_moves) (b1__law_moves)) (sSeq (sFz 1) (sSeq (sKill [2, 3]) (sRt (eV 1)))))
def F__law_moves : Fn := fnOf 6 g__law_moves
theorem ok__law_moves {P : Program} {w : World} {K : PySem.W.Frag} {mg : PySem.Str → Option Value} {base : Heap} (c : C K mg base) : OkD P w K mg base d__law_moves ["plant"] 1 F__law_moves :=
  OkD.mk (N := ["plant", "found", "place", "some", "letter", "to"]) (f := He.ga K "_law_moves") (fd := (c.says.def_ 29 (d := d__law_moves) rfl).choose) (g := g__law_moves) (c.glo 58 rfl) (c.says.def_ 29 (d := d__law_moves) rfl).choose_spec sc__law_moves fun cdv A outer s H E B hr hgd =>
    have hu0 := hr.units0; have hu := hr.units; have hu1 := u1_of hr; have hu65 := u65_of hr
    dss_cons (ds_new 1 (dn_lst (da_nil)) sc__law_moves.nd) (dss_cons (ds_for (passes_of rfl) rfl (di_enum (da_cons (de_ix (db_v 0) (db_of (de_int))) (da_nil)) rfl (c.free 14 rfl)) (dg_t rfl (dgs_cons (dg_v 2 sc__law_moves.nd) (dgs_cons (dg_v 3 sc__law_moves.nd) (dgs_nil)))) (dss_cons (ds_ext 1 (db_of (de_frz (dn_lc [("letter", 4), ("to", 5)] rfl sc__law_moves.nd (dj_of (di_seq (de_v 3))) (blk_of (N := ["plant", "found", "place", "some", "letter", "to"]) (sc := d__law_moves.scope) (by decide +kernel)) (by decide) (fun _ _ _ _ _ => dg_t rfl (dgs_cons (dg_v 4 sc__law_moves.nd) (dgs_cons (dg_v 5 sc__law_moves.nd) (dgs_nil)))) (fun _ _ _ _ _ => dts_nil) (fun _ _ _ _ _ => de_tup (da_cons (de_v 2) (da_cons (de_v 4) (da_cons (de_v 5) (da_nil))))))))) (dss_kill0 [2, 3]))) (dss_fz (dss_kill [2, 3] (dss_one (ds_ret (de_v 1))))))
theorem sc__law_plant : FnScope ["pot", "letters", "places", "owners", "moves", "place", "some", "turn"] ["pot", "letters", "places"] d__law_plant.scope := ⟨rfl, rfl, rfl, by decide +kernel, rfl, by decide +kernel, by decide +kernel⟩
def lt1__law_plant : Tgt := gV 7
def lf1__law_plant : Ev D := eTup (aCons (eCall F__law_draw (aCons (eV 0) (aCons (eV 1) (aNil)))) (aCons (eCall F__law_draw (aCons (eV 0) (aCons (eV 2) (aNil)))) (aNil)))
def t1__law_plant : Tgt := gV 5
def b1__law_plant : Es := sSeq (sMu 3 mApp (eCall F__law_draw (aCons (eV 0) (aCons (eC (.int 2)) (aNil))))) (sSeq (sSet 6 (eFrz (nLc (iRange (aCons (eBin2 oAdd (eC (.int 1)) (eCall F__law_draw (aCons (eV 0) (aCons (eC (.int 4)) (aNil))))) (aNil))) [7] (lt1__law_plant) (bYes) (lf1__law_plant)))) (sSeq (sMu 4 mApp (eFn bTup (aCons (eFrz (nSS 2 10 (eVb 6))) (aNil)))) (sKill [5, 6])))
def g__law_plant : Es := sSeq (sPar [3, 4] (mNew (nLst (aNil)) (mNew (nLst (aNil)) (mNil)))) (sSeq (sFor (iRange (aCons (eV 2) (aNil))) (t1__law_plant) (b1__law_plant)) (sSeq (sFz 4) (sSeq (sFz 3) (sSeq (sKill [5, 6]) (sRt (eTup (aCons (eC (.str "plant")) (aCons (eV 1) (aCons (eFn bTup (aCons (eVb 3) (aNil))) (aCons (eFn bTup (aCons (eVb 4) (aNil))) (aNil)))))))))))
def F__law_plant : Fn := fnOf 8 g__law_plant
theorem ok__law_plant {P : Program} {w : World} {K : PySem.W.Frag} {mg : PySem.Str → Option Value} {base : Heap} (c : C K mg base) : OkD P w K mg base d__law_plant ["pot", "letters", "places"] 2 F__law_plant :=
  OkD.mk (N := ["pot", "letters", "places", "owners", "moves", "place", "some", "turn"]) (f := He.ga K "_law_plant") (fd := (c.says.def_ 30 (d := d__law_plant) rfl).choose) (g := g__law_plant) (c.glo 59 rfl) (c.says.def_ 30 (d := d__law_plant) rfl).choose_spec sc__law_plant fun cdv A outer s H E B hr hgd =>
    have hu0 := hr.units0; have hu := hr.units; have hu1 := u1_of hr; have hu65 := u65_of hr
    dss_cons (ds_par2 (i := 3) (j := 4) rfl sc__law_plant.nd (dm_new (dn_lst (da_nil)) (dm_new (dn_lst (da_nil)) (dm_nil)))) (dss_cons (ds_for (passes_of rfl) rfl (di_range1 (da_cons (de_v 2) (da_nil)) (ALen.cons (ALen.nil)) rfl (c.free 18 rfl)) (dg_v 5 sc__law_plant.nd) (dss_cons (ds_app 3 (de_call (ok__law_draw c) bp__law_draw (hr.mono (by decide)) hgd (takes_of rfl rfl rfl rfl) (da_cons (de_v 0) (da_cons (de_int) (da_nil))) (ALen.cons (ALen.cons (ALen.nil))) rfl)) (dss_cons (ds_setLc (i := 6) [("turn", 7)] rfl sc__law_plant.nd (dj_of (di_range1 (da_cons (de_add (db_of (de_int)) (db_of (de_call (ok__law_draw c) bp__law_draw (hr.mono (by decide)) hgd (takes_of rfl rfl rfl rfl) (da_cons (de_v 0) (da_cons (de_int) (da_nil))) (ALen.cons (ALen.cons (ALen.nil))) rfl))) (da_nil)) (ALen.cons (ALen.nil)) rfl (c.free 18 rfl))) (blk_of (N := ["pot", "letters", "places", "owners", "moves", "place", "some", "turn"]) (sc := d__law_plant.scope) (by decide +kernel)) (by decide) (fun _ _ _ _ _ => dg_v 7 sc__law_plant.nd) (fun _ _ _ _ _ => dts_nil) (fun _ _ _ _ _ => de_tup (da_cons (de_call (ok__law_draw c) bp__law_draw (hr.mono (by decide)) hgd takes0 (da_cons (de_v 0) (da_cons (de_v 1) (da_nil))) (ALen.cons (ALen.cons (ALen.nil))) rfl) (da_cons (de_call (ok__law_draw c) bp__law_draw (hr.mono (by decide)) hgd takes0 (da_cons (de_v 0) (da_cons (de_v 2) (da_nil))) (ALen.cons (ALen.cons (ALen.nil))) rfl) (da_nil)))) (sw_true rfl rfl rfl rfl)) (dss_cons (ds_app 4 (de_ty call_tuple_of cb_tup rfl (c.free 3 rfl) bo_tuple (dab_cons (db_of (de_frz (dn_ss 2 10 rfl hu rfl (c.free 24 rfl) bo_sorted rfl (c.free 25 rfl) bo_set (db_v 6)))) (dab_nil)))) (dss_kill0 [5, 6]))))) (dss_fz (dss_fz (dss_kill [5, 6] (dss_one (ds_ret (de_tup (da_cons (de_str) (da_cons (de_v 1) (da_cons (de_ty call_tuple_of cb_tup rfl (c.free 3 rfl) bo_tuple (dab_cons (db_v 3) (dab_nil))) (da_cons (de_ty call_tuple_of cb_tup rfl (c.free 3 rfl) bo_tuple (dab_cons (db_v 4) (dab_nil))) (da_nil))))))))))))
theorem sc__law_hand : FnScope ["pot", "plant", "memories", "takes", "nexts", "memory", "row", "owner", "some", "move"] ["pot", "plant", "memories"] d__law_hand.scope := ⟨rfl, rfl, rfl, by decide +kernel, rfl, by decide +kernel, by decide +kernel⟩
def t1__law_hand : Tgt := gT 2 (gConsR (gV 7) (gConsR (gV 8) (gNilR))) ((gV 7).ix ++ ((gV 8).ix ++ []))
def b1__law_hand : Es := sSeq (sMu 6 mApp (eIf (toB (eBin2 oEq (eVb 7) (eC (.int 0)))) (eCall F__law_draw (aCons (eV 0) (aCons (eFn bLen (aCons (eVb 8) (aNil))) (aNil)))) (eC .non))) (sKill [7, 8])
def lt1__law_hand : Tgt := gV 9
def lf1__law_hand : Ev D := eCall F__law_pick (aCons (eV 0) (aCons (eFrz (nLst (aCons (eV 5) (aCons (eCall F__law_draw (aCons (eV 0) (aCons (eV 2) (aNil)))) (aNil))))) (aNil)))
def t2__law_hand : Tgt := gV 5
def b2__law_hand : Es := sSeq (sNew 6 (nLst (aNil))) (sSeq (sFor (iVia zipD (aCons (eBin2 oIx (eVb 1) (eC (.int 2))) (aCons (eBin2 oIx (eVb 1) (eC (.int 3))) (aNil)))) (t1__law_hand) (b1__law_hand)) (sSeq (sFz 6) (sSeq (sKill [7, 8]) (sSeq (sMu 3 mApp (eFn bTup (aCons (eVb 6) (aNil)))) (sSeq (sMu 4 mApp (eFn bTup (aCons (eFrz (nLc (iSeq (eCall F__law_moves (aCons (eV 1) (aNil)))) [9] (lt1__law_hand) (bYes) (lf1__law_hand))) (aNil)))) (sKill [5, 7, 6, 8]))))))
def g__law_hand : Es := sSeq (sPar [3, 4] (mNew (nLst (aNil)) (mNew (nLst (aNil)) (mNil)))) (sSeq (sFor (iRange (aCons (eV 2) (aNil))) (t2__law_hand) (b2__law_hand)) (sSeq (sFz 4) (sSeq (sFz 3) (sSeq (sKill [5, 7, 6, 8]) (sRt (eTup (aCons (eC (.str "hand")) (aCons (eFn bTup (aCons (eVb 3) (aNil))) (aCons (eFn bTup (aCons (eVb 4) (aNil))) (aNil))))))))))
def F__law_hand : Fn := fnOf 10 g__law_hand
theorem ok__law_hand {P : Program} {w : World} {K : PySem.W.Frag} {mg : PySem.Str → Option Value} {base : Heap} (c : C K mg base) : OkD P w K mg base d__law_hand ["pot", "plant", "memories"] 3 F__law_hand :=
  OkD.mk (N := ["pot", "plant", "memories", "takes", "nexts", "memory", "row", "owner", "some", "move"]) (f := He.ga K "_law_hand") (fd := (c.says.def_ 31 (d := d__law_hand) rfl).choose) (g := g__law_hand) (c.glo 60 rfl) (c.says.def_ 31 (d := d__law_hand) rfl).choose_spec sc__law_hand fun cdv A outer s H E B hr hgd =>
    have hu0 := hr.units0; have hu := hr.units; have hu1 := u1_of hr; have hu65 := u65_of hr
    dss_cons (ds_par2 (i := 3) (j := 4) rfl sc__law_hand.nd (dm_new (dn_lst (da_nil)) (dm_new (dn_lst (da_nil)) (dm_nil)))) (dss_cons (ds_for (passes_of rfl) rfl (di_range1 (da_cons (de_v 2) (da_nil)) (ALen.cons (ALen.nil)) rfl (c.free 18 rfl)) (dg_v 5 sc__law_hand.nd) (dss_cons (ds_new 6 (dn_lst (da_nil)) sc__law_hand.nd) (dss_cons (ds_for (passes_of rfl) rfl (di_zip (da_cons (de_ix (db_v 1) (db_of (de_int))) (da_cons (de_ix (db_v 1) (db_of (de_int))) (da_nil))) rfl (c.free 7 rfl)) (dg_t rfl (dgs_cons (dg_v 7 sc__law_hand.nd) (dgs_cons (dg_v 8 sc__law_hand.nd) (dgs_nil)))) (dss_cons (ds_app 6 (de_if (dt_cmp2 (op_eq.or (op_eqD hu)) opb_eq (db_v 7) (db_of (de_int))) (de_call (ok__law_draw c) bp__law_draw (hr.mono (by decide)) hgd (takes_of rfl rfl rfl rfl) (da_cons (de_v 0) (da_cons (de_bi call_len cb_len rfl (c.free 4 rfl) bo_len (dab_cons (db_v 8) (dab_nil))) (da_nil))) (ALen.cons (ALen.cons (ALen.nil))) rfl) (de_non))) (dss_kill0 [7, 8]))) (dss_fz (dss_kill [7, 8] (dss_cons (ds_app 3 (de_ty call_tuple_of cb_tup rfl (c.free 3 rfl) bo_tuple (dab_cons (db_v 6) (dab_nil)))) (dss_cons (ds_app 4 (de_ty call_tuple_of cb_tup rfl (c.free 3 rfl) bo_tuple (dab_cons (db_of (de_frz (dn_lc [("move", 9)] rfl sc__law_hand.nd (dj_of (di_seq (de_call (ok__law_moves c) bp__law_moves (hr.mono (by decide)) hgd (takes_of rfl rfl rfl rfl) (da_cons (de_v 1) (da_nil)) (ALen.cons (ALen.nil)) rfl))) (blk_of (N := ["pot", "plant", "memories", "takes", "nexts", "memory", "row", "owner", "some", "move"]) (sc := d__law_hand.scope) (by decide +kernel)) (by decide) (fun _ _ _ _ _ => dg_v 9 sc__law_hand.nd) (fun _ _ _ _ _ => dts_nil) (fun _ _ _ _ _ => de_call (ok__law_pick c) bp__law_pick (hr.mono (by decide)) hgd takes0 (da_cons (de_v 0) (da_cons (de_frz (dn_lst (da_cons (de_v 5) (da_cons (de_call (ok__law_draw c) bp__law_draw (hr.mono (by decide)) hgd takes0 (da_cons (de_v 0) (da_cons (de_v 2) (da_nil))) (ALen.cons (ALen.cons (ALen.nil))) rfl) (da_nil))))) (da_nil))) (ALen.cons (ALen.cons (ALen.nil))) rfl)))) (dab_nil)))) (dss_kill0 [5, 7, 6, 8])))))))) (dss_fz (dss_fz (dss_kill [5, 7, 6, 8] (dss_one (ds_ret (de_tup (da_cons (de_str) (da_cons (de_ty call_tuple_of cb_tup rfl (c.free 3 rfl) bo_tuple (dab_cons (db_v 3) (dab_nil))) (da_cons (de_ty call_tuple_of cb_tup rfl (c.free 3 rfl) bo_tuple (dab_cons (db_v 4) (dab_nil))) (da_nil)))))))))))
theorem sc__law_line : FnScope ["row", "kind", "memory", "near", "far", "name"] ["row"] d__law_line.scope := ⟨rfl, rfl, rfl, by decide +kernel, rfl, by decide +kernel, by decide +kernel⟩
def g__law_line : Es := sSeq (sUnp (gT 4 (gConsR (gV 1) (gConsR (gV 2) (gConsR (gV 3) (gConsR (gV 4) (gNilR))))) ((gV 1).ix ++ ((gV 2).ix ++ ((gV 3).ix ++ ((gV 4).ix ++ []))))) (eV 0)) (sSeq (sSet 5 (eIf (toB (eBin2 oIsN (eVb 2) (eC .non))) (eC (.str "*")) (eFn bStr (aCons (eVb 2) (aNil))))) (sRt (eBin2 oAdd (eBin2 oAdd (eBin2 oAdd (eBin2 oAdd (eBin2 oAdd (eBin2 oAdd (eBin2 oAdd (eBin2 oAdd (eBin2 oAdd (eC (.str "in ")) (eVb 5)) (eC (.str " "))) (eBin2 oIx (eFrz (nLst (aCons (eC (.str "at")) (aCons (eC (.str "after")) (aNil))))) (eVb 1))) (eC (.str " "))) (eFn bStr (aCons (eVb 3) (aNil)))) (eC (.str " "))) (eBin2 oIx (eFrz (nLst (aCons (eC (.str "take")) (aCons (eC (.str "go")) (aNil))))) (eVb 1))) (eC (.str " "))) (eFn bStr (aCons (eVb 4) (aNil))))))
def F__law_line : Fn := fnOf 6 g__law_line
theorem ok__law_line {P : Program} {w : World} {K : PySem.W.Frag} {mg : PySem.Str → Option Value} {base : Heap} (c : C K mg base) : OkD P w K mg base d__law_line ["row"] 1 F__law_line :=
  OkD.mk (N := ["row", "kind", "memory", "near", "far", "name"]) (f := He.ga K "_law_line") (fd := (c.says.def_ 32 (d := d__law_line) rfl).choose) (g := g__law_line) (c.glo 61 rfl) (c.says.def_ 32 (d := d__law_line) rfl).choose_spec sc__law_line fun cdv A outer s H E B hr hgd =>
    have hu0 := hr.units0; have hu := hr.units; have hu1 := u1_of hr; have hu65 := u65_of hr
    dss_cons (ds_unp (de_v 0) (dg_t rfl (dgs_cons (dg_v 1 sc__law_line.nd) (dgs_cons (dg_v 2 sc__law_line.nd) (dgs_cons (dg_v 3 sc__law_line.nd) (dgs_cons (dg_v 4 sc__law_line.nd) (dgs_nil))))))) (dss_cons (ds_set 5 (de_if (dt_cmp2 op_isN opb_isN (db_v 2) (db_of (de_non))) (de_str) (de_ty call_str_int cb_str rfl (c.free 9 rfl) bo_str (dab_cons (db_v 2) (dab_nil)))) sc__law_line.nd) (dss_one (ds_ret (de_add (db_of (de_add (db_of (de_add (db_of (de_add (db_of (de_add (db_of (de_add (db_of (de_add (db_of (de_add (db_of (de_add (db_of (de_str)) (db_v 5))) (db_of (de_str)))) (db_of (de_ix (db_of (de_frz (dn_lst (da_cons (de_str) (da_cons (de_str) (da_nil)))))) (db_v 1))))) (db_of (de_str)))) (db_of (de_ty call_str_int cb_str rfl (c.free 9 rfl) bo_str (dab_cons (db_v 3) (dab_nil)))))) (db_of (de_str)))) (db_of (de_ix (db_of (de_frz (dn_lst (da_cons (de_str) (da_cons (de_str) (da_nil)))))) (db_v 1))))) (db_of (de_str)))) (db_of (de_ty call_str_int cb_str rfl (c.free 9 rfl) bo_str (dab_cons (db_v 4) (dab_nil))))))))
theorem sc__law_text : FnScope ["many", "rows", "line", "row"] ["many", "rows"] d__law_text.scope := ⟨rfl, rfl, rfl, by decide +kernel, rfl, by decide +kernel, by decide +kernel⟩
def lt1__law_text : Tgt := gV 3
def lf1__law_text : Ev D := eCall F__law_line (aCons (eV 3) (aNil))
def lt2__law_text : Tgt := gV 2
def lf2__law_text : Ev D := eBin2 oAdd (eVb 2) (eC (.str "\n"))
def g__law_text : Es := sRt (eJoin (eC (.str "")) (eFrz (nLc (iSeq (eBin2 oAdd (eFrz (nLst (aCons (eBin2 oAdd (eC (.str "memories ")) (eFn bStr (aCons (eVb 0) (aNil)))) (aNil)))) (eFrz (nLc (iSeq (eV 1)) [3] (lt1__law_text) (bYes) (lf1__law_text))))) [2] (lt2__law_text) (bYes) (lf2__law_text))))
def F__law_text : Fn := fnOf 4 g__law_text
theorem ok__law_text {P : Program} {w : World} {K : PySem.W.Frag} {mg : PySem.Str → Option Value} {base : Heap} (c : C K mg base) : OkD P w K mg base d__law_text ["many", "rows"] 2 F__law_text :=
  OkD.mk (N := ["many", "rows", "line", "row"]) (f := He.ga K "_law_text") (fd := (c.says.def_ 33 (d := d__law_text) rfl).choose) (g := g__law_text) (c.glo 62 rfl) (c.says.def_ 33 (d := d__law_text) rfl).choose_spec sc__law_text fun cdv A outer s H E B hr hgd =>
    have hu0 := hr.units0; have hu := hr.units; have hu1 := u1_of hr; have hu65 := u65_of hr
    dss_one (ds_ret (de_join (de_str) (db_of (de_frz (dn_lc [("line", 2)] rfl sc__law_text.nd (dj_of (di_seq (de_add (db_of (de_frz (dn_lst (da_cons (de_add (db_of (de_str)) (db_of (de_ty call_str_int cb_str rfl (c.free 9 rfl) bo_str (dab_cons (db_v 0) (dab_nil))))) (da_nil))))) (db_of (de_frz (dn_lc [("row", 3)] rfl sc__law_text.nd (dj_of (di_seq (de_v 1))) (blk_of (N := ["many", "rows", "line", "row"]) (sc := d__law_text.scope) (by decide +kernel)) (by decide) (fun _ _ _ _ _ => dg_v 3 sc__law_text.nd) (fun _ _ _ _ _ => dts_nil) (fun _ _ _ _ _ => de_call (ok__law_line c) bp__law_line (hr.mono (by decide)) hgd takes0 (da_cons (de_v 3) (da_nil)) (ALen.cons (ALen.nil)) rfl))))))) (blk_of (N := ["many", "rows", "line", "row"]) (sc := d__law_text.scope) (by decide +kernel)) (by decide) (fun _ _ _ _ _ => dg_v 2 sc__law_text.nd) (fun _ _ _ _ _ => dts_nil) (fun _ _ _ _ _ => de_add (db_v 2) (db_of (de_str))))))))
theorem sc__law_rows : FnScope ["hand", "found", "memory", "place", "one", "move"] ["hand"] d__law_rows.scope := ⟨rfl, rfl, rfl, by decide +kernel, rfl, by decide +kernel, by decide +kernel⟩
def lt1__law_rows : Tgt := gT 2 (gConsR (gV 3) (gConsR (gV 4) (gNilR))) ((gV 3).ix ++ ((gV 4).ix ++ []))
def lf1__law_rows : Ev D := eTup (aCons (eC (.int 0)) (aCons (eV 2) (aCons (eV 3) (aCons (eV 4) (aNil)))))
def lc1__law_rows : Ev Bool := toB (eBin2 oNotN (eVb 4) (eC .non))
def lt2__law_rows : Tgt := gT 2 (gConsR (gV 5) (gConsR (gV 4) (gNilR))) ((gV 5).ix ++ ((gV 4).ix ++ []))
def lf2__law_rows : Ev D := eTup (aCons (eC (.int 1)) (aCons (eV 2) (aCons (eV 5) (aCons (eV 4) (aNil)))))
def lc2__law_rows : Ev Bool := toB (eBin2 oNe (eVb 4) (eVb 2))
def t1__law_rows : Tgt := gV 2
def b1__law_rows : Es := sSeq (sMu 1 mExt (eFrz (nLc (iVia enumOf (aCons (eBin2 oIx (eBin2 oIx (eVb 0) (eC (.int 1))) (eVb 2)) (aNil))) [3, 4] (lt1__law_rows) (lc1__law_rows) (lf1__law_rows)))) (sSeq (sMu 1 mExt (eFrz (nLc (iVia enumOf (aCons (eBin2 oIx (eBin2 oIx (eVb 0) (eC (.int 2))) (eVb 2)) (aNil))) [5, 4] (lt2__law_rows) (lc2__law_rows) (lf2__law_rows)))) (sKill [2]))
def g__law_rows : Es := sSeq (sNew 1 (nLst (aNil))) (sSeq (sFor (iRange (aCons (eFn bLen (aCons (eBin2 oIx (eVb 0) (eC (.int 1))) (aNil))) (aNil))) (t1__law_rows) (b1__law_rows)) (sSeq (sFz 1) (sSeq (sKill [2]) (sRt (eV 1)))))
def F__law_rows : Fn := fnOf 6 g__law_rows
theorem ok__law_rows {P : Program} {w : World} {K : PySem.W.Frag} {mg : PySem.Str → Option Value} {base : Heap} (c : C K mg base) : OkD P w K mg base d__law_rows ["hand"] 1 F__law_rows :=
  OkD.mk (N := ["hand", "found", "memory", "place", "one", "move"]) (f := He.ga K "_law_rows") (fd := (c.says.def_ 34 (d := d__law_rows) rfl).choose) (g := g__law_rows) (c.glo 63 rfl) (c.says.def_ 34 (d := d__law_rows) rfl).choose_spec sc__law_rows fun cdv A outer s H E B hr hgd =>
    have hu0 := hr.units0; have hu := hr.units; have hu1 := u1_of hr; have hu65 := u65_of hr
    dss_cons (ds_new 1 (dn_lst (da_nil)) sc__law_rows.nd) (dss_cons (ds_for (passes_of rfl) rfl (di_range1 (da_cons (de_bi call_len cb_len rfl (c.free 4 rfl) bo_len (dab_cons (db_of (de_ix (db_v 0) (db_of (de_int)))) (dab_nil))) (da_nil)) (ALen.cons (ALen.nil)) rfl (c.free 18 rfl)) (dg_v 2 sc__law_rows.nd) (dss_cons (ds_ext 1 (db_of (de_frz (dn_lc [("place", 3), ("one", 4)] rfl sc__law_rows.nd (dj_of (di_enum (da_cons (de_ix (db_of (de_ix (db_v 0) (db_of (de_int)))) (db_v 2)) (da_nil)) rfl (c.free 14 rfl))) (blk_of (N := ["hand", "found", "memory", "place", "one", "move"]) (sc := d__law_rows.scope) (by decide +kernel)) (by decide) (fun _ _ _ _ _ => dg_t rfl (dgs_cons (dg_v 3 sc__law_rows.nd) (dgs_cons (dg_v 4 sc__law_rows.nd) (dgs_nil)))) (fun _ _ _ _ _ => dts_one (dt_cmp2 op_notN opb_notN (db_v 4) (db_of (de_non)))) (fun _ _ _ _ _ => de_tup (da_cons (de_int) (da_cons (de_v 2) (da_cons (de_v 3) (da_cons (de_v 4) (da_nil)))))))))) (dss_cons (ds_ext 1 (db_of (de_frz (dn_lc [("move", 5), ("one", 4)] rfl sc__law_rows.nd (dj_of (di_enum (da_cons (de_ix (db_of (de_ix (db_v 0) (db_of (de_int)))) (db_v 2)) (da_nil)) rfl (c.free 14 rfl))) (blk_of (N := ["hand", "found", "memory", "place", "one", "move"]) (sc := d__law_rows.scope) (by decide +kernel)) (by decide) (fun _ _ _ _ _ => dg_t rfl (dgs_cons (dg_v 5 sc__law_rows.nd) (dgs_cons (dg_v 4 sc__law_rows.nd) (dgs_nil)))) (fun _ _ _ _ _ => dts_one (dt_cmp2 (op_ne.or (op_neD hu)) opb_ne (db_v 4) (db_v 2))) (fun _ _ _ _ _ => de_tup (da_cons (de_int) (da_cons (de_v 2) (da_cons (de_v 5) (da_cons (de_v 4) (da_nil)))))))))) (dss_kill0 [2])))) (dss_fz (dss_kill [2] (dss_one (ds_ret (de_v 1))))))
theorem sc__law_first : FnScope ["rows", "kind", "memory", "near", "other", "some", "word", "name", "one", "far"] ["rows", "kind", "memory", "near", "other"] d__law_first.scope := ⟨rfl, rfl, rfl, by decide +kernel, rfl, by decide +kernel, by decide +kernel⟩
def lt1__law_first : Tgt := gT 4 (gConsR (gV 6) (gConsR (gV 7) (gConsR (gV 8) (gConsR (gV 9) (gNilR))))) ((gV 6).ix ++ ((gV 7).ix ++ ((gV 8).ix ++ ((gV 9).ix ++ []))))
def lf1__law_first : Ev D := eV 9
def lc1__law_first : Ev Bool := bAnd (toB (eBin2 oEq (eVb 6) (eVb 1))) (bAnd (toB (eBin2 oIn (eVb 7) (eTup (aCons (eC .non) (aCons (eV 2) (aNil)))))) (toB (eBin2 oEq (eVb 8) (eVb 3))))
def g__law_first : Es := sSeq (sSet 5 (eFrz (nLc (iSeq (eV 0)) [6, 7, 8, 9] (lt1__law_first) (lc1__law_first) (lf1__law_first)))) (sRt (eIf (toB (eBin2 oNe (eVb 5) (eFrz (nLst (aNil))))) (eBin2 oIx (eVb 5) (eC (.int 0))) (eV 4)))
def F__law_first : Fn := fnOf 10 g__law_first
theorem ok__law_first {P : Program} {w : World} {K : PySem.W.Frag} {mg : PySem.Str → Option Value} {base : Heap} (c : C K mg base) : OkD P w K mg base d__law_first ["rows", "kind", "memory", "near", "other"] 1 F__law_first :=
  OkD.mk (N := ["rows", "kind", "memory", "near", "other", "some", "word", "name", "one", "far"]) (f := He.ga K "_law_first") (fd := (c.says.def_ 35 (d := d__law_first) rfl).choose) (g := g__law_first) (c.glo 64 rfl) (c.says.def_ 35 (d := d__law_first) rfl).choose_spec sc__law_first fun cdv A outer s H E B hr hgd =>
    have hu0 := hr.units0; have hu := hr.units; have hu1 := u1_of hr; have hu65 := u65_of hr
    dss_cons (ds_setLc (i := 5) [("word", 6), ("name", 7), ("one", 8), ("far", 9)] rfl sc__law_first.nd (dj_of (di_seq (de_v 0))) (blk_of (N := ["rows", "kind", "memory", "near", "other", "some", "word", "name", "one", "far"]) (sc := d__law_first.scope) (by decide +kernel)) (by decide) (fun _ _ _ _ _ => dg_t rfl (dgs_cons (dg_v 6 sc__law_first.nd) (dgs_cons (dg_v 7 sc__law_first.nd) (dgs_cons (dg_v 8 sc__law_first.nd) (dgs_cons (dg_v 9 sc__law_first.nd) (dgs_nil)))))) (fun _ _ _ _ _ => dts_one (dt_w (dw_and (dt_cmp2 (op_eq.or (op_eqD hu)) opb_eq (db_v 6) (db_v 1)) (dw_and (dt_cmp2 (op_in_seq.or (op_inD hu65)) opb_in (db_v 7) (db_of (de_tup (da_cons (de_non) (da_cons (de_v 2) (da_nil)))))) (dw_and1 (dt_cmp2 (op_eq.or (op_eqD hu)) opb_eq (db_v 8) (db_v 3))))))) (fun _ _ _ _ _ => de_v 9) (sw_true rfl rfl rfl rfl)) (dss_one (ds_ret (de_if (dt_cmp2 (op_ne.or (op_neD hu)) opb_ne (db_v 5) (db_of (de_frz (dn_lst (da_nil))))) (de_ix (db_v 5) (db_of (de_int))) (de_v 4))))
theorem sc__law_told : FnScope ["plant", "many", "rows", "takes", "nexts", "memory", "place", "move"] ["plant", "many", "rows"] d__law_told.scope := ⟨rfl, rfl, rfl, by decide +kernel, rfl, by decide +kernel, by decide +kernel⟩
def lt1__law_told : Tgt := gV 6
def lf1__law_told : Ev D := eCall F__law_first (aCons (eV 2) (aCons (eC (.int 0)) (aCons (eV 5) (aCons (eV 6) (aCons (eC .non) (aNil))))))
def lt2__law_told : Tgt := gV 7
def lf2__law_told : Ev D := eCall F__law_first (aCons (eV 2) (aCons (eC (.int 1)) (aCons (eV 5) (aCons (eV 7) (aCons (eV 5) (aNil))))))
def t1__law_told : Tgt := gV 5
def b1__law_told : Es := sSeq (sMu 3 mApp (eFn bTup (aCons (eFrz (nLc (iRange (aCons (eFn bLen (aCons (eBin2 oIx (eVb 0) (eC (.int 2))) (aNil))) (aNil))) [6] (lt1__law_told) (bYes) (lf1__law_told))) (aNil)))) (sSeq (sMu 4 mApp (eFn bTup (aCons (eFrz (nLc (iRange (aCons (eFn bLen (aCons (eCall F__law_moves (aCons (eV 0) (aNil))) (aNil))) (aNil))) [7] (lt2__law_told) (bYes) (lf2__law_told))) (aNil)))) (sKill [5]))
def g__law_told : Es := sSeq (sPar [3, 4] (mNew (nLst (aNil)) (mNew (nLst (aNil)) (mNil)))) (sSeq (sFor (iRange (aCons (eV 1) (aNil))) (t1__law_told) (b1__law_told)) (sSeq (sFz 4) (sSeq (sFz 3) (sSeq (sKill [5]) (sRt (eTup (aCons (eC (.str "hand")) (aCons (eFn bTup (aCons (eVb 3) (aNil))) (aCons (eFn bTup (aCons (eVb 4) (aNil))) (aNil))))))))))
def F__law_told : Fn := fnOf 8 g__law_told
theorem ok__law_told {P : Program} {w : World} {K : PySem.W.Frag} {mg : PySem.Str → Option Value} {base : Heap} (c : C K mg base) : OkD P w K mg base d__law_told ["plant", "many", "rows"] 2 F__law_told :=
  OkD.mk (N := ["plant", "many", "rows", "takes", "nexts", "memory", "place", "move"]) (f := He.ga K "_law_told") (fd := (c.says.def_ 36 (d := d__law_told) rfl).choose) (g := g__law_told) (c.glo 65 rfl) (c.says.def_ 36 (d := d__law_told) rfl).choose_spec sc__law_told fun cdv A outer s H E B hr hgd =>
    have hu0 := hr.units0; have hu := hr.units; have hu1 := u1_of hr; have hu65 := u65_of hr
    dss_cons (ds_par2 (i := 3) (j := 4) rfl sc__law_told.nd (dm_new (dn_lst (da_nil)) (dm_new (dn_lst (da_nil)) (dm_nil)))) (dss_cons (ds_for (passes_of rfl) rfl (di_range1 (da_cons (de_v 1) (da_nil)) (ALen.cons (ALen.nil)) rfl (c.free 18 rfl)) (dg_v 5 sc__law_told.nd) (dss_cons (ds_app 3 (de_ty call_tuple_of cb_tup rfl (c.free 3 rfl) bo_tuple (dab_cons (db_of (de_frz (dn_lc [("place", 6)] rfl sc__law_told.nd (dj_of (di_range1 (da_cons (de_bi call_len cb_len rfl (c.free 4 rfl) bo_len (dab_cons (db_of (de_ix (db_v 0) (db_of (de_int)))) (dab_nil))) (da_nil)) (ALen.cons (ALen.nil)) rfl (c.free 18 rfl))) (blk_of (N := ["plant", "many", "rows", "takes", "nexts", "memory", "place", "move"]) (sc := d__law_told.scope) (by decide +kernel)) (by decide) (fun _ _ _ _ _ => dg_v 6 sc__law_told.nd) (fun _ _ _ _ _ => dts_nil) (fun _ _ _ _ _ => de_call (ok__law_first c) bp__law_first (hr.mono (by decide)) hgd takes0 (da_cons (de_v 2) (da_cons (de_int) (da_cons (de_v 5) (da_cons (de_v 6) (da_cons (de_non) (da_nil)))))) (ALen.cons (ALen.cons (ALen.cons (ALen.cons (ALen.cons (ALen.nil)))))) rfl)))) (dab_nil)))) (dss_cons (ds_app 4 (de_ty call_tuple_of cb_tup rfl (c.free 3 rfl) bo_tuple (dab_cons (db_of (de_frz (dn_lc [("move", 7)] rfl sc__law_told.nd (dj_of (di_range1 (da_cons (de_bi call_len cb_len rfl (c.free 4 rfl) bo_len (dab_cons (db_of (de_call (ok__law_moves c) bp__law_moves (hr.mono (by decide)) hgd (takes_of rfl rfl rfl rfl) (da_cons (de_v 0) (da_nil)) (ALen.cons (ALen.nil)) rfl)) (dab_nil))) (da_nil)) (ALen.cons (ALen.nil)) rfl (c.free 18 rfl))) (blk_of (N := ["plant", "many", "rows", "takes", "nexts", "memory", "place", "move"]) (sc := d__law_told.scope) (by decide +kernel)) (by decide) (fun _ _ _ _ _ => dg_v 7 sc__law_told.nd) (fun _ _ _ _ _ => dts_nil) (fun _ _ _ _ _ => de_call (ok__law_first c) bp__law_first (hr.mono (by decide)) hgd takes0 (da_cons (de_v 2) (da_cons (de_int) (da_cons (de_v 5) (da_cons (de_v 7) (da_cons (de_v 5) (da_nil)))))) (ALen.cons (ALen.cons (ALen.cons (ALen.cons (ALen.cons (ALen.nil)))))) rfl)))) (dab_nil)))) (dss_kill0 [5])))) (dss_fz (dss_fz (dss_kill [5] (dss_one (ds_ret (de_tup (da_cons (de_str) (da_cons (de_ty call_tuple_of cb_tup rfl (c.free 3 rfl) bo_tuple (dab_cons (db_v 3) (dab_nil))) (da_cons (de_ty call_tuple_of cb_tup rfl (c.free 3 rfl) bo_tuple (dab_cons (db_v 4) (dab_nil))) (da_nil)))))))))))
theorem sc__law_drawn_rows : FnScope ["pot", "plant", "many", "found", "own", "turn", "memory", "place", "owner"] ["pot", "plant", "many"] d__law_drawn_rows.scope := ⟨rfl, rfl, rfl, by decide +kernel, rfl, by decide +kernel, by decide +kernel⟩
def lt1__law_drawn_rows : Tgt := gT 2 (gConsR (gV 7) (gConsR (gV 8) (gNilR))) ((gV 7).ix ++ ((gV 8).ix ++ []))
def lf1__law_drawn_rows : Ev D := eV 7
def lc1__law_drawn_rows : Ev Bool := toB (eBin2 oEq (eVb 8) (eC (.int 0)))
def t1__law_drawn_rows : Tgt := gV 5
def b1__law_drawn_rows : Es := sSeq (sSet 6 (eIf (toB (eBin2 oEq (eCall F__law_draw (aCons (eV 0) (aCons (eC (.int 3)) (aNil)))) (eC (.int 0)))) (eC .non) (eCall F__law_draw (aCons (eV 0) (aCons (eV 2) (aNil)))))) (sSeq (sIf (bAnd (toB (eBin2 oNe (eVb 4) (eFrz (nLst (aNil))))) (toB (eBin2 oEq (eCall F__law_draw (aCons (eV 0) (aCons (eC (.int 2)) (aNil)))) (eC (.int 0))))) (sSeq (sSet 7 (eCall F__law_pick (aCons (eV 0) (aCons (eV 4) (aNil))))) (sMu 3 mApp (eTup (aCons (eC (.int 0)) (aCons (eV 6) (aCons (eV 7) (aCons (eCall F__law_draw (aCons (eV 0) (aCons (eFn bLen (aCons (eBin2 oIx (eBin2 oIx (eVb 1) (eC (.int 3))) (eVb 7)) (aNil))) (aNil)))) (aNil)))))))) (sMu 3 mApp (eTup (aCons (eC (.int 1)) (aCons (eV 6) (aCons (eCall F__law_draw (aCons (eV 0) (aCons (eFn bLen (aCons (eCall F__law_moves (aCons (eV 1) (aNil))) (aNil))) (aNil)))) (aCons (eCall F__law_draw (aCons (eV 0) (aCons (eV 2) (aNil)))) (aNil)))))))) (sSeq (sIf (toB (eBin2 oEq (eCall F__law_draw (aCons (eV 0) (aCons (eC (.int 4)) (aNil)))) (eC (.int 0)))) (sMu 3 mApp (eLend 3 (eCall F__law_pick (aCons (eV 0) (aCons (eV 3) (aNil)))))) (sNx)) (sKill [6, 7, 5])))
def t2__law_drawn_rows : Tgt := gV 7
def b2__law_drawn_rows : Es := sSeq (sMu 3 mApp (eTup (aCons (eC (.int 0)) (aCons (eC .non) (aCons (eV 7) (aCons (eCall F__law_draw (aCons (eV 0) (aCons (eFn bLen (aCons (eBin2 oIx (eBin2 oIx (eVb 1) (eC (.int 3))) (eVb 7)) (aNil))) (aNil)))) (aNil))))))) (sKill [7])
def g__law_drawn_rows : Es := sSeq (sPar [3, 4] (mNew (nLst (aNil)) (mVal (eFrz (nLc (iVia enumOf (aCons (eBin2 oIx (eVb 1) (eC (.int 2))) (aNil))) [7, 8] (lt1__law_drawn_rows) (lc1__law_drawn_rows) (lf1__law_drawn_rows))) (mNil)))) (sSeq (sFor (iRange (aCons (eCall F__law_draw (aCons (eV 0) (aCons (eC (.int 24)) (aNil)))) (aNil))) (t1__law_drawn_rows) (b1__law_drawn_rows)) (sSeq (sKill [6, 7, 5]) (sSeq (sFor (iSeq (eV 4)) (t2__law_drawn_rows) (b2__law_drawn_rows)) (sSeq (sFz 3) (sSeq (sKill [7]) (sRt (eV 3)))))))
def F__law_drawn_rows : Fn := fnOf 9 g__law_drawn_rows
theorem ok__law_drawn_rows {P : Program} {w : World} {K : PySem.W.Frag} {mg : PySem.Str → Option Value} {base : Heap} (c : C K mg base) : OkD P w K mg base d__law_drawn_rows ["pot", "plant", "many"] 3 F__law_drawn_rows :=
  OkD.mk (N := ["pot", "plant", "many", "found", "own", "turn", "memory", "place", "owner"]) (f := He.ga K "_law_drawn_rows") (fd := (c.says.def_ 37 (d := d__law_drawn_rows) rfl).choose) (g := g__law_drawn_rows) (c.glo 66 rfl) (c.says.def_ 37 (d := d__law_drawn_rows) rfl).choose_spec sc__law_drawn_rows fun cdv A outer s H E B hr hgd =>
    have hu0 := hr.units0; have hu := hr.units; have hu1 := u1_of hr; have hu65 := u65_of hr
    dss_cons (ds_par2 (i := 3) (j := 4) rfl sc__law_drawn_rows.nd (dm_new (dn_lst (da_nil)) (dm_val (de_frz (dn_lc [("place", 7), ("owner", 8)] rfl sc__law_drawn_rows.nd (dj_of (di_enum (da_cons (de_ix (db_v 1) (db_of (de_int))) (da_nil)) rfl (c.free 14 rfl))) (blk_of (N := ["pot", "plant", "many", "found", "own", "turn", "memory", "place", "owner"]) (sc := d__law_drawn_rows.scope) (by decide +kernel)) (by decide) (fun _ _ _ _ _ => dg_t rfl (dgs_cons (dg_v 7 sc__law_drawn_rows.nd) (dgs_cons (dg_v 8 sc__law_drawn_rows.nd) (dgs_nil)))) (fun _ _ _ _ _ => dts_one (dt_cmp2 (op_eq.or (op_eqD hu)) opb_eq (db_v 8) (db_of (de_int)))) (fun _ _ _ _ _ => de_v 7))) (dm_nil)))) (dss_cons (ds_for (passes_of rfl) rfl (di_range1 (da_cons (de_call (ok__law_draw c) bp__law_draw (hr.mono (by decide)) hgd (takes_of rfl rfl rfl rfl) (da_cons (de_v 0) (da_cons (de_int) (da_nil))) (ALen.cons (ALen.cons (ALen.nil))) rfl) (da_nil)) (ALen.cons (ALen.nil)) rfl (c.free 18 rfl)) (dg_v 5 sc__law_drawn_rows.nd) (dss_cons (ds_set 6 (de_if (dt_cmp2 (op_eq.or (op_eqD hu)) opb_eq (db_of (de_call (ok__law_draw c) bp__law_draw (hr.mono (by decide)) hgd (takes_of rfl rfl rfl rfl) (da_cons (de_v 0) (da_cons (de_int) (da_nil))) (ALen.cons (ALen.cons (ALen.nil))) rfl)) (db_of (de_int))) (de_non) (de_call (ok__law_draw c) bp__law_draw (hr.mono (by decide)) hgd (takes_of rfl rfl rfl rfl) (da_cons (de_v 0) (da_cons (de_v 2) (da_nil))) (ALen.cons (ALen.cons (ALen.nil))) rfl)) sc__law_drawn_rows.nd) (dss_cons (ds_if (dt_w (dw_and (dt_cmp2 (op_ne.or (op_neD hu)) opb_ne (db_v 4) (db_of (de_frz (dn_lst (da_nil))))) (dw_and1 (dt_cmp2 (op_eq.or (op_eqD hu)) opb_eq (db_of (de_call (ok__law_draw c) bp__law_draw (hr.mono (by decide)) hgd (takes_of rfl rfl rfl rfl) (da_cons (de_v 0) (da_cons (de_int) (da_nil))) (ALen.cons (ALen.cons (ALen.nil))) rfl)) (db_of (de_int)))))) (dss_cons (ds_set 7 (de_call (ok__law_pick c) bp__law_pick (hr.mono (by decide)) hgd (takes_of rfl rfl rfl rfl) (da_cons (de_v 0) (da_cons (de_v 4) (da_nil))) (ALen.cons (ALen.cons (ALen.nil))) rfl) sc__law_drawn_rows.nd) (dss_one (ds_app 3 (de_tup (da_cons (de_int) (da_cons (de_v 6) (da_cons (de_v 7) (da_cons (de_call (ok__law_draw c) bp__law_draw (hr.mono (by decide)) hgd (takes_of rfl rfl rfl rfl) (da_cons (de_v 0) (da_cons (de_bi call_len cb_len rfl (c.free 4 rfl) bo_len (dab_cons (db_of (de_ix (db_of (de_ix (db_v 1) (db_of (de_int)))) (db_v 7))) (dab_nil))) (da_nil))) (ALen.cons (ALen.cons (ALen.nil))) rfl) (da_nil))))))))) (dss_one (ds_app 3 (de_tup (da_cons (de_int) (da_cons (de_v 6) (da_cons (de_call (ok__law_draw c) bp__law_draw (hr.mono (by decide)) hgd (takes_of rfl rfl rfl rfl) (da_cons (de_v 0) (da_cons (de_bi call_len cb_len rfl (c.free 4 rfl) bo_len (dab_cons (db_of (de_call (ok__law_moves c) bp__law_moves (hr.mono (by decide)) hgd (takes_of rfl rfl rfl rfl) (da_cons (de_v 1) (da_nil)) (ALen.cons (ALen.nil)) rfl)) (dab_nil))) (da_nil))) (ALen.cons (ALen.cons (ALen.nil))) rfl) (da_cons (de_call (ok__law_draw c) bp__law_draw (hr.mono (by decide)) hgd (takes_of rfl rfl rfl rfl) (da_cons (de_v 0) (da_cons (de_v 2) (da_nil))) (ALen.cons (ALen.cons (ALen.nil))) rfl) (da_nil))))))))) (dss_cons (ds_if (dt_cmp2 (op_eq.or (op_eqD hu)) opb_eq (db_of (de_call (ok__law_draw c) bp__law_draw (hr.mono (by decide)) hgd (takes_of rfl rfl rfl rfl) (da_cons (de_v 0) (da_cons (de_int) (da_nil))) (ALen.cons (ALen.cons (ALen.nil))) rfl)) (db_of (de_int))) (dss_one (ds_app 3 (de_lend 3 (de_call (ok__law_pick c) bp__law_pick (hr.mono (by decide)) hgd (takes_of rfl rfl rfl rfl) (da_cons (de_v 0) (da_cons (de_v 3) (da_nil))) (ALen.cons (ALen.cons (ALen.nil))) rfl)))) (dss_nil)) (dss_kill0 [6, 7, 5]))))) (dss_kill [6, 7, 5] (dss_cons (ds_for (passes_of rfl) rfl (di_seq (de_v 4)) (dg_v 7 sc__law_drawn_rows.nd) (dss_cons (ds_app 3 (de_tup (da_cons (de_int) (da_cons (de_non) (da_cons (de_v 7) (da_cons (de_call (ok__law_draw c) bp__law_draw (hr.mono (by decide)) hgd (takes_of rfl rfl rfl rfl) (da_cons (de_v 0) (da_cons (de_bi call_len cb_len rfl (c.free 4 rfl) bo_len (dab_cons (db_of (de_ix (db_of (de_ix (db_v 1) (db_of (de_int)))) (db_v 7))) (dab_nil))) (da_nil))) (ALen.cons (ALen.cons (ALen.nil))) rfl) (da_nil))))))) (dss_kill0 [7]))) (dss_fz (dss_kill [7] (dss_one (ds_ret (de_v 3))))))))
theorem sc__law_heard : FnScope ["plant", "text", "told", "e"] ["plant", "text"] d__law_heard.scope := ⟨rfl, rfl, rfl, by decide +kernel, rfl, by decide +kernel, by decide +kernel⟩
def g__law_heard : Es := sSeq (sSet 2 (eC .non)) (sSeq (sTryM mX (sSet 2 (eCall F_hand_of_text (aCons (eV 0) (aCons (eV 1) (aNil))))) (("BadText", 3, fun fs => sSet 2 (eLs (aCons (eC (.str "bad")) (aCons (eFld "line" fs) (aCons (eC (.bl true)) (aNil)))))) :: ("InvalidText", 3, fun fs => sSet 2 (eLs (aCons (eC (.str "text")) (aCons (eFld "value" fs) (aCons (eC (.bl true)) (aNil)))))) :: [])) (sRt (eV 2)))
def F__law_heard : Fn := fnOf 4 g__law_heard
theorem ok__law_heard {P : Program} {w : World} {K : PySem.W.Frag} {mg : PySem.Str → Option Value} {base : Heap} (c : C K mg base) : OkD P w K mg base d__law_heard ["plant", "text"] 9 F__law_heard :=
  OkD.mk (N := ["plant", "text", "told", "e"]) (f := He.ga K "_law_heard") (fd := (c.says.def_ 38 (d := d__law_heard) rfl).choose) (g := g__law_heard) (c.glo 67 rfl) (c.says.def_ 38 (d := d__law_heard) rfl).choose_spec sc__law_heard fun cdv A outer s H E B hr hgd =>
    have hu0 := hr.units0; have hu := hr.units; have hu1 := u1_of hr; have hu65 := u65_of hr
    dss_cons (ds_set 2 (de_non) sc__law_heard.nd) (dss_cons (ds_tryM (M := mX) sc__law_heard.nd rfl rfl (takes_of rfl rfl rfl rfl) c.apart (fun W2 pn xe tkT psT => dss_one (ds_set 2 (de_call (ok_hand_of_text c) bp_hand_of_text (hr.mono (by decide)) hgd tkT (da_cons (de_v 0) (da_cons (de_v 1) (da_nil))) (ALen.cons (ALen.cons (ALen.nil))) rfl) sc__law_heard.nd)) (dcl_cons rfl rfl rfl (c.glo 19 rfl) (c.x_BadText) (fun a dd oe fs pn B2 hz hv => su_set 2 (qs_cons (q_of (de_str)) (qs_cons (q_fld (C := "BadText") (c.e_BadText) (c.n_BadText_line) hz hv) (qs_cons (q_isi (C := "BadText") (c.e_BadText) (c.k_BadText_HandError) hz hv rfl (c.free 0 rfl) rfl (c.glo 26 rfl) bo_isinstance) (qs_nil)))) sc__law_heard.nd) (dcl_cons rfl rfl rfl (c.glo 20 rfl) (c.x_InvalidText) (fun a dd oe fs pn B2 hz hv => su_set 2 (qs_cons (q_of (de_str)) (qs_cons (q_fld (C := "InvalidText") (c.e_InvalidText) (c.n_InvalidText_value) hz hv) (qs_cons (q_isi (C := "InvalidText") (c.e_InvalidText) (c.k_InvalidText_HandError) hz hv rfl (c.free 0 rfl) rfl (c.glo 26 rfl) bo_isinstance) (qs_nil)))) sc__law_heard.nd) (dcl_nil)))) (dss_one (ds_ret (de_v 2))))
theorem sc__law_odd_lines : FnScope ["pot", "plant", "many", "place", "move", "found", "at", "owner"] ["pot", "plant", "many"] d__law_odd_lines.scope := ⟨rfl, rfl, rfl, by decide +kernel, rfl, by decide +kernel, by decide +kernel⟩
def t1__law_odd_lines : Tgt := gT 2 (gConsR (gV 6) (gConsR (gV 7) (gNilR))) ((gV 6).ix ++ ((gV 7).ix ++ []))
def b1__law_odd_lines : Es := sSeq (sIf (toB (eBin2 oEq (eVb 7) (eC (.int 1)))) (sMu 5 mApp (eBin2 oAdd (eBin2 oAdd (eC (.str "in 0 at ")) (eFn bStr (aCons (eVb 6) (aNil)))) (eC (.str " take 0")))) (sMu 5 mExt (eFrz (nLst (aCons (eBin2 oAdd (eBin2 oAdd (eBin2 oAdd (eC (.str "in 0 at ")) (eFn bStr (aCons (eVb 6) (aNil)))) (eC (.str " take "))) (eFn bStr (aCons (eFn bLen (aCons (eBin2 oIx (eBin2 oIx (eVb 1) (eC (.int 3))) (eVb 6)) (aNil))) (aNil)))) (aCons (eBin2 oAdd (eBin2 oAdd (eBin2 oAdd (eC (.str "in 0 at ")) (eFn bStr (aCons (eVb 6) (aNil)))) (eC (.str " take 0"))) (eC (.str "0"))) (aNil))))))) (sKill [6, 7])
def g__law_odd_lines : Es := sSeq (sPar [3, 4] (mVal (eFn bLen (aCons (eBin2 oIx (eVb 1) (eC (.int 2))) (aNil))) (mVal (eFn bLen (aCons (eCall F__law_moves (aCons (eV 1) (aNil))) (aNil))) (mNil)))) (sSeq (sNew 5 (nLst (aCons (eC (.str "")) (aCons (eC (.str " ")) (aCons (eC (.str "in")) (aCons (eC (.str "memories 1")) (aCons (eBin2 oAdd (eC (.str "in 0 after 0 go ")) (eFn bStr (aCons (eVb 2) (aNil)))) (aCons (eBin2 oAdd (eBin2 oAdd (eC (.str "in 0 after ")) (eFn bStr (aCons (eVb 4) (aNil)))) (eC (.str " go 0"))) (aCons (eC (.str "in 0 after 0 go *")) (aNil)))))))))) (sSeq (sNew 5 (nCat (eVb 5) (eFrz (nLst (aCons (eBin2 oAdd (eBin2 oAdd (eC (.str "in ")) (eFn bStr (aCons (eVb 2) (aNil)))) (eC (.str " after 0 go 0"))) (aCons (eC (.str "in -1 after 0 go 0")) (aCons (eC (.str "in 00 after 0 go 0")) (aCons (eC (.str "in 0 after 00 go 0")) (aNil))))))))) (sSeq (sNew 5 (nCat (eVb 5) (eFrz (nLst (aCons (eC (.str "in 0 after 0 go 0 ")) (aCons (eC (.str " in 0 after 0 go 0")) (aCons (eC (.str "in  0 after 0 go 0")) (aCons (eC (.str "in 0 after 0 take 0")) (aCons (eC (.str "in 0 at 0 go 0")) (aNil)))))))))) (sSeq (sNew 5 (nCat (eVb 5) (eFrz (nLst (aCons (eC (.str "in 0 after +0 go 0")) (aCons (eC (.str "in 0 after 0 go 0_0")) (aCons (eC (.str "in 0 after 0 go 1000000000")) (aCons (eC (.str "in 0 after 10000000000 go 0")) (aNil))))))))) (sSeq (sNew 5 (nCat (eVb 5) (eFrz (nLst (aCons (eC (.str "In 0 after 0 go 0")) (aCons (eC (.str "in 0 after 0 go")) (aCons (eC (.str "in 0 after * go 0")) (aCons (eC (.str "in a after 0 go 0")) (aCons (eBin2 oAdd (eBin2 oAdd (eC (.str "in 0 at ")) (eFn bStr (aCons (eVb 3) (aNil)))) (eC (.str " take 0"))) (aNil)))))))))) (sSeq (sFor (iVia enumOf (aCons (eBin2 oIx (eVb 1) (eC (.int 2))) (aNil))) (t1__law_odd_lines) (b1__law_odd_lines)) (sSeq (sFz 5) (sSeq (sKill [6, 7]) (sRt (eCall F__law_pick (aCons (eV 0) (aCons (eV 5) (aNil)))))))))))))
def F__law_odd_lines : Fn := fnOf 8 g__law_odd_lines
theorem ok__law_odd_lines {P : Program} {w : World} {K : PySem.W.Frag} {mg : PySem.Str → Option Value} {base : Heap} (c : C K mg base) : OkD P w K mg base d__law_odd_lines ["pot", "plant", "many"] 3 F__law_odd_lines :=
  OkD.mk (N := ["pot", "plant", "many", "place", "move", "found", "at", "owner"]) (f := He.ga K "_law_odd_lines") (fd := (c.says.def_ 39 (d := d__law_odd_lines) rfl).choose) (g := g__law_odd_lines) (c.glo 68 rfl) (c.says.def_ 39 (d := d__law_odd_lines) rfl).choose_spec sc__law_odd_lines fun cdv A outer s H E B hr hgd =>
    have hu0 := hr.units0; have hu := hr.units; have hu1 := u1_of hr; have hu65 := u65_of hr
    dss_cons (ds_par2 (i := 3) (j := 4) rfl sc__law_odd_lines.nd (dm_val (de_bi call_len cb_len rfl (c.free 4 rfl) bo_len (dab_cons (db_of (de_ix (db_v 1) (db_of (de_int)))) (dab_nil))) (dm_val (de_bi call_len cb_len rfl (c.free 4 rfl) bo_len (dab_cons (db_of (de_call (ok__law_moves c) bp__law_moves (hr.mono (by decide)) hgd (takes_of rfl rfl rfl rfl) (da_cons (de_v 1) (da_nil)) (ALen.cons (ALen.nil)) rfl)) (dab_nil))) (dm_nil)))) (dss_cons (ds_new 5 (dn_lst (da_cons (de_str) (da_cons (de_str) (da_cons (de_str) (da_cons (de_str) (da_cons (de_add (db_of (de_str)) (db_of (de_ty call_str_int cb_str rfl (c.free 9 rfl) bo_str (dab_cons (db_v 2) (dab_nil))))) (da_cons (de_add (db_of (de_add (db_of (de_str)) (db_of (de_ty call_str_int cb_str rfl (c.free 9 rfl) bo_str (dab_cons (db_v 4) (dab_nil)))))) (db_of (de_str))) (da_cons (de_str) (da_nil))))))))) sc__law_odd_lines.nd) (dss_cons (ds_new 5 (dn_cat (db_v 5) (db_of (de_frz (dn_lst (da_cons (de_add (db_of (de_add (db_of (de_str)) (db_of (de_ty call_str_int cb_str rfl (c.free 9 rfl) bo_str (dab_cons (db_v 2) (dab_nil)))))) (db_of (de_str))) (da_cons (de_str) (da_cons (de_str) (da_cons (de_str) (da_nil))))))))) sc__law_odd_lines.nd) (dss_cons (ds_new 5 (dn_cat (db_v 5) (db_of (de_frz (dn_lst (da_cons (de_str) (da_cons (de_str) (da_cons (de_str) (da_cons (de_str) (da_cons (de_str) (da_nil)))))))))) sc__law_odd_lines.nd) (dss_cons (ds_new 5 (dn_cat (db_v 5) (db_of (de_frz (dn_lst (da_cons (de_str) (da_cons (de_str) (da_cons (de_str) (da_cons (de_str) (da_nil))))))))) sc__law_odd_lines.nd) (dss_cons (ds_new 5 (dn_cat (db_v 5) (db_of (de_frz (dn_lst (da_cons (de_str) (da_cons (de_str) (da_cons (de_str) (da_cons (de_str) (da_cons (de_add (db_of (de_add (db_of (de_str)) (db_of (de_ty call_str_int cb_str rfl (c.free 9 rfl) bo_str (dab_cons (db_v 3) (dab_nil)))))) (db_of (de_str))) (da_nil)))))))))) sc__law_odd_lines.nd) (dss_cons (ds_for (passes_of rfl) rfl (di_enum (da_cons (de_ix (db_v 1) (db_of (de_int))) (da_nil)) rfl (c.free 14 rfl)) (dg_t rfl (dgs_cons (dg_v 6 sc__law_odd_lines.nd) (dgs_cons (dg_v 7 sc__law_odd_lines.nd) (dgs_nil)))) (dss_cons (ds_if (dt_cmp2 (op_eq.or (op_eqD hu)) opb_eq (db_v 7) (db_of (de_int))) (dss_one (ds_app 5 (de_add (db_of (de_add (db_of (de_str)) (db_of (de_ty call_str_int cb_str rfl (c.free 9 rfl) bo_str (dab_cons (db_v 6) (dab_nil)))))) (db_of (de_str))))) (dss_one (ds_ext 5 (db_of (de_frz (dn_lst (da_cons (de_add (db_of (de_add (db_of (de_add (db_of (de_str)) (db_of (de_ty call_str_int cb_str rfl (c.free 9 rfl) bo_str (dab_cons (db_v 6) (dab_nil)))))) (db_of (de_str)))) (db_of (de_ty call_str_int cb_str rfl (c.free 9 rfl) bo_str (dab_cons (db_of (de_bi call_len cb_len rfl (c.free 4 rfl) bo_len (dab_cons (db_of (de_ix (db_of (de_ix (db_v 1) (db_of (de_int)))) (db_v 6))) (dab_nil)))) (dab_nil))))) (da_cons (de_add (db_of (de_add (db_of (de_add (db_of (de_str)) (db_of (de_ty call_str_int cb_str rfl (c.free 9 rfl) bo_str (dab_cons (db_v 6) (dab_nil)))))) (db_of (de_str)))) (db_of (de_str))) (da_nil))))))))) (dss_kill0 [6, 7]))) (dss_fz (dss_kill [6, 7] (dss_one (ds_ret (de_call (ok__law_pick c) bp__law_pick (hr.mono (by decide)) hgd (takes_of rfl rfl rfl rfl) (da_cons (de_v 0) (da_cons (de_v 5) (da_nil))) (ALen.cons (ALen.cons (ALen.nil))) rfl)))))))))))
theorem sc__law_wrong_right : FnScope ["pot", "plant", "many", "rows", "lines", "at", "odd", "texts", "late", "first", "own", "place", "less", "memory", "each", "one", "some", "due", "text", "owner", "row", "line"] ["pot", "plant", "many", "rows"] d__law_wrong_right.scope := ⟨rfl, rfl, rfl, by decide +kernel, rfl, by decide +kernel, by decide +kernel⟩
def lt1__law_wrong_right : Tgt := gT 2 (gConsR (gV 11) (gConsR (gV 19) (gNilR))) ((gV 11).ix ++ ((gV 19).ix ++ []))
def lf1__law_wrong_right : Ev D := eV 11
def lc1__law_wrong_right : Ev Bool := toB (eBin2 oEq (eVb 19) (eC (.int 0)))
def lt2__law_wrong_right : Tgt := gV 20
def lf2__law_wrong_right : Ev D := eV 20
def lc2__law_wrong_right : Ev Bool := bOr (toB (eBin2 oNe (eSl (eVb 20) (pNo) (pAt (eC (.int 1)))) (eTup (aCons (eC (.int 0)) (aNil))))) (toB (eBin2 oNe (eBin2 oIx (eVb 20) (eC (.int 2))) (eVb 11)))
def lt3__law_wrong_right : Tgt := gV 20
def lf3__law_wrong_right : Ev D := eCall F__law_line (aCons (eV 20) (aNil))
def lt4__law_wrong_right : Tgt := gV 5
def lf4__law_wrong_right : Ev D := eCall F__law_line (aCons (eTup (aCons (eC (.int 0)) (aCons (eV 15) (aCons (eV 5) (aCons (eC (.int 0)) (aNil)))))) (aNil))
def lc3__law_wrong_right : Ev Bool := toB (eBin2 oNe (eTup (aCons (eV 15) (aCons (eV 5) (aNil)))) (eTup (aCons (eV 13) (aCons (eV 11) (aNil)))))
def t1__law_wrong_right : Tgt := gV 15
def b1__law_wrong_right : Es := sSeq (sMu 14 mExt (eFrz (nLc (iSeq (eV 10)) [5] (lt4__law_wrong_right) (lc3__law_wrong_right) (lf4__law_wrong_right)))) (sKill [15])
def lt5__law_wrong_right : Tgt := gV 21
def lf5__law_wrong_right : Ev D := eBin2 oAdd (eVb 21) (eC (.str "\n"))
def t2__law_wrong_right : Tgt := gT 2 (gConsR (gV 16) (gConsR (gV 17) (gNilR))) ((gV 16).ix ++ ((gV 17).ix ++ []))
def b2__law_wrong_right : Es := sSeq (sSet 18 (eJoin (eC (.str "")) (eFrz (nLc (iSeq (eV 16)) [21] (lt5__law_wrong_right) (bYes) (lf5__law_wrong_right))))) (sSeq (sIf (toB (eBin2 oNe (eFn bRepr (aCons (eCall F__law_heard (aCons (eV 1) (aCons (eV 18) (aNil)))) (aNil))) (eFn bRepr (aCons (eFrz (nLst (aCons (eC (.str "bad")) (aCons (eV 17) (aCons (eC (.bl true)) (aNil)))))) (aNil))))) (sRt (eC (.bl false))) (sNx)) (sSeq (sIf (bAnd (toB (eBin2 oNe (eVb 16) (eFrz (nLst (aNil))))) (bAnd (toB (eBin2 oNe (eBin2 oIx (eVb 16) (eNeg (eC (.int 1)))) (eC (.str "")))) (toB (eBin2 oNe (eFn bRepr (aCons (eCall F__law_heard (aCons (eV 1) (aCons (eSl (eVb 18) (pNo) (pAt (eNeg (eC (.int 1))))) (aNil)))) (aNil))) (eFn bRepr (aCons (eFrz (nLst (aCons (eC (.str "bad")) (aCons (eV 17) (aCons (eC (.bl true)) (aNil)))))) (aNil))))))) (sRt (eC (.bl false))) (sNx)) (sKill [17, 16, 18])))
def g__law_wrong_right : Es := sSeq (sSet 4 (eSl (eSplit (eCall F__law_text (aCons (eV 2) (aCons (eV 3) (aNil)))) (eC (.str "\n"))) (pNo) (pAt (eNeg (eC (.int 1)))))) (sSeq (sPar [5, 6] (mVal (eBin2 oAdd (eC (.int 1)) (eCall F__law_draw (aCons (eV 0) (aCons (eFn bLen (aCons (eVb 4) (aNil))) (aNil))))) (mVal (eCall F__law_odd_lines (aCons (eV 0) (aCons (eV 1) (aCons (eV 2) (aNil))))) (mNil)))) (sSeq (sNew 7 (nLst (aCons (eTup (aCons (eBin2 oAdd (eBin2 oAdd (eSl (eVb 4) (pNo) (pAt (eVb 5))) (eFrz (nLst (aCons (eV 6) (aNil))))) (eSl (eVb 4) (pAt (eVb 5)) (pNo))) (aCons (eV 5) (aNil)))) (aNil)))) (sSeq (sSet 8 (eBin2 oAdd (eVb 5) (eCall F__law_draw (aCons (eV 0) (aCons (eBin2 oSub (eBin2 oAdd (eFn bLen (aCons (eVb 4) (aNil))) (eC (.int 1))) (eVb 5)) (aNil)))))) (sSeq (sMu 7 mApp (eTup (aCons (eBin2 oAdd (eBin2 oAdd (eBin2 oAdd (eBin2 oAdd (eSl (eVb 4) (pNo) (pAt (eVb 5))) (eFrz (nLst (aCons (eV 6) (aNil))))) (eSl (eVb 4) (pAt (eVb 5)) (pAt (eVb 8)))) (eFrz (nLst (aCons (eC (.str "go")) (aNil))))) (eSl (eVb 4) (pAt (eVb 8)) (pNo))) (aCons (eV 5) (aNil))))) (sSeq (sSet 9 (eCall F__law_pick (aCons (eV 0) (aCons (eFrz (nLst (aCons (eC (.str "memories 0")) (aCons (eC (.str "memories 61")) (aCons (eC (.str "memories")) (aCons (eC (.str "memories 1 1")) (aCons (eC (.str "memory 1")) (aCons (eC (.str "memories 01")) (aCons (eC (.str "memories *")) (aCons (eC (.str "in 0")) (aNil))))))))))) (aNil))))) (sSeq (sMu 7 mApp (eTup (aCons (eBin2 oAdd (eFrz (nLst (aCons (eV 9) (aNil)))) (eSl (eVb 4) (pAt (eC (.int 1))) (pNo))) (aCons (eC (.int 0)) (aNil))))) (sSeq (sMu 7 mApp (eTup (aCons (eSl (eVb 4) (pAt (eC (.int 1))) (pNo)) (aCons (eC (.int 0)) (aNil))))) (sSeq (sMu 7 mApp (eTup (aCons (eFrz (nLst (aNil))) (aCons (eC (.int 0)) (aNil))))) (sSeq (sSet 10 (eFrz (nLc (iVia enumOf (aCons (eBin2 oIx (eVb 1) (eC (.int 2))) (aNil))) [11, 19] (lt1__law_wrong_right) (lc1__law_wrong_right) (lf1__law_wrong_right)))) (sSeq (sIf (toB (eBin2 oNe (eVb 10) (eFrz (nLst (aNil))))) (sSeq (sSet 11 (eCall F__law_pick (aCons (eV 0) (aCons (eV 10) (aNil))))) (sSeq (sSet 12 (eFrz (nLc (iSeq (eV 3)) [20] (lt2__law_wrong_right) (lc2__law_wrong_right) (lf2__law_wrong_right)))) (sSeq (sSet 12 (eBin2 oAdd (eFrz (nLst (aCons (eBin2 oAdd (eC (.str "memories ")) (eFn bStr (aCons (eVb 2) (aNil)))) (aNil)))) (eFrz (nLc (iSeq (eV 12)) [20] (lt3__law_wrong_right) (bYes) (lf3__law_wrong_right))))) (sSeq (sMu 7 mApp (eTup (aCons (eV 12) (aCons (eFn bLen (aCons (eVb 12) (aNil))) (aNil))))) (sSeq (sPar [13, 14] (mVal (eCall F__law_draw (aCons (eV 0) (aCons (eV 2) (aNil)))) (mNew (nLst (aCons (eBin2 oAdd (eC (.str "memories ")) (eFn bStr (aCons (eVb 2) (aNil)))) (aNil))) (mNil)))) (sSeq (sFor (iRange (aCons (eV 2) (aNil))) (t1__law_wrong_right) (b1__law_wrong_right)) (sSeq (sFz 14) (sSeq (sKill [15]) (sMu 7 mApp (eTup (aCons (eV 14) (aCons (eFn bLen (aCons (eVb 14) (aNil))) (aNil))))))))))))) (sNx)) (sSeq (sFz 7) (sSeq (sFor (iSeq (eV 7)) (t2__law_wrong_right) (b2__law_wrong_right)) (sSeq (sKill [17, 16, 18]) (sSeq (sSet 18 (eJoin (eC (.str "\n")) (eVb 4))) (sRt (eBin2 oEq (eFn bRepr (aCons (eCall F__law_heard (aCons (eV 1) (aCons (eV 18) (aNil)))) (aNil))) (eFn bRepr (aCons (eFrz (nLst (aCons (eC (.str "bad")) (aCons (eBin2 oSub (eFn bLen (aCons (eVb 4) (aNil))) (eC (.int 1))) (aCons (eC (.bl true)) (aNil)))))) (aNil)))))))))))))))))))
def F__law_wrong_right : Fn := fnOf 22 g__law_wrong_right
theorem ok__law_wrong_right {P : Program} {w : World} {K : PySem.W.Frag} {mg : PySem.Str → Option Value} {base : Heap} (c : C K mg base) : OkD P w K mg base d__law_wrong_right ["pot", "plant", "many", "rows"] 10 F__law_wrong_right :=
  OkD.mk (N := ["pot", "plant", "many", "rows", "lines", "at", "odd", "texts", "late", "first", "own", "place", "less", "memory", "each", "one", "some", "due", "text", "owner", "row", "line"]) (f := He.ga K "_law_wrong_right") (fd := (c.says.def_ 40 (d := d__law_wrong_right) rfl).choose) (g := g__law_wrong_right) (c.glo 69 rfl) (c.says.def_ 40 (d := d__law_wrong_right) rfl).choose_spec sc__law_wrong_right fun cdv A outer s H E B hr hgd =>
    have hu0 := hr.units0; have hu := hr.units; have hu1 := u1_of hr; have hu65 := u65_of hr
    dss_cons (ds_set 4 (de_sl (db_of (de_split (de_call (ok__law_text c) bp__law_text (hr.mono (by decide)) hgd (takes_of rfl rfl rfl rfl) (da_cons (de_v 2) (da_cons (de_v 3) (da_nil))) (ALen.cons (ALen.cons (ALen.nil))) rfl) (de_str))) (do_no) (do_at (db_of (de_neg (de_int))))) sc__law_wrong_right.nd) (dss_cons (ds_par2 (i := 5) (j := 6) rfl sc__law_wrong_right.nd (dm_val (de_add (db_of (de_int)) (db_of (de_call (ok__law_draw c) bp__law_draw (hr.mono (by decide)) hgd (takes_of rfl rfl rfl rfl) (da_cons (de_v 0) (da_cons (de_bi call_len cb_len rfl (c.free 4 rfl) bo_len (dab_cons (db_v 4) (dab_nil))) (da_nil))) (ALen.cons (ALen.cons (ALen.nil))) rfl))) (dm_val (de_call (ok__law_odd_lines c) bp__law_odd_lines (hr.mono (by decide)) hgd (takes_of rfl rfl rfl rfl) (da_cons (de_v 0) (da_cons (de_v 1) (da_cons (de_v 2) (da_nil)))) (ALen.cons (ALen.cons (ALen.cons (ALen.nil)))) rfl) (dm_nil)))) (dss_cons (ds_new 7 (dn_lst (da_cons (de_tup (da_cons (de_add (db_of (de_add (db_of (de_sl (db_v 4) (do_no) (do_at (db_v 5)))) (db_of (de_frz (dn_lst (da_cons (de_v 6) (da_nil))))))) (db_of (de_sl (db_v 4) (do_at (db_v 5)) (do_no)))) (da_cons (de_v 5) (da_nil)))) (da_nil))) sc__law_wrong_right.nd) (dss_cons (ds_set 8 (de_add (db_v 5) (db_of (de_call (ok__law_draw c) bp__law_draw (hr.mono (by decide)) hgd (takes_of rfl rfl rfl rfl) (da_cons (de_v 0) (da_cons (de_sub (db_of (de_add (db_of (de_bi call_len cb_len rfl (c.free 4 rfl) bo_len (dab_cons (db_v 4) (dab_nil)))) (db_of (de_int)))) (db_v 5)) (da_nil))) (ALen.cons (ALen.cons (ALen.nil))) rfl))) sc__law_wrong_right.nd) (dss_cons (ds_app 7 (de_tup (da_cons (de_add (db_of (de_add (db_of (de_add (db_of (de_add (db_of (de_sl (db_v 4) (do_no) (do_at (db_v 5)))) (db_of (de_frz (dn_lst (da_cons (de_v 6) (da_nil))))))) (db_of (de_sl (db_v 4) (do_at (db_v 5)) (do_at (db_v 8)))))) (db_of (de_frz (dn_lst (da_cons (de_str) (da_nil))))))) (db_of (de_sl (db_v 4) (do_at (db_v 8)) (do_no)))) (da_cons (de_v 5) (da_nil))))) (dss_cons (ds_set 9 (de_call (ok__law_pick c) bp__law_pick (hr.mono (by decide)) hgd (takes_of rfl rfl rfl rfl) (da_cons (de_v 0) (da_cons (de_frz (dn_lst (da_cons (de_str) (da_cons (de_str) (da_cons (de_str) (da_cons (de_str) (da_cons (de_str) (da_cons (de_str) (da_cons (de_str) (da_cons (de_str) (da_nil))))))))))) (da_nil))) (ALen.cons (ALen.cons (ALen.nil))) rfl) sc__law_wrong_right.nd) (dss_cons (ds_app 7 (de_tup (da_cons (de_add (db_of (de_frz (dn_lst (da_cons (de_v 9) (da_nil))))) (db_of (de_sl (db_v 4) (do_at (db_of (de_int))) (do_no)))) (da_cons (de_int) (da_nil))))) (dss_cons (ds_app 7 (de_tup (da_cons (de_sl (db_v 4) (do_at (db_of (de_int))) (do_no)) (da_cons (de_int) (da_nil))))) (dss_cons (ds_app 7 (de_tup (da_cons (de_frz (dn_lst (da_nil))) (da_cons (de_int) (da_nil))))) (dss_cons (ds_setLc (i := 10) [("place", 11), ("owner", 19)] rfl sc__law_wrong_right.nd (dj_of (di_enum (da_cons (de_ix (db_v 1) (db_of (de_int))) (da_nil)) rfl (c.free 14 rfl))) (blk_of (N := ["pot", "plant", "many", "rows", "lines", "at", "odd", "texts", "late", "first", "own", "place", "less", "memory", "each", "one", "some", "due", "text", "owner", "row", "line"]) (sc := d__law_wrong_right.scope) (by decide +kernel)) (by decide) (fun _ _ _ _ _ => dg_t rfl (dgs_cons (dg_v 11 sc__law_wrong_right.nd) (dgs_cons (dg_v 19 sc__law_wrong_right.nd) (dgs_nil)))) (fun _ _ _ _ _ => dts_one (dt_cmp2 (op_eq.or (op_eqD hu)) opb_eq (db_v 19) (db_of (de_int)))) (fun _ _ _ _ _ => de_v 11) (sw_true rfl rfl rfl rfl)) (dss_cons (ds_if (dt_cmp2 (op_ne.or (op_neD hu)) opb_ne (db_v 10) (db_of (de_frz (dn_lst (da_nil))))) (dss_cons (ds_set 11 (de_call (ok__law_pick c) bp__law_pick (hr.mono (by decide)) hgd (takes_of rfl rfl rfl rfl) (da_cons (de_v 0) (da_cons (de_v 10) (da_nil))) (ALen.cons (ALen.cons (ALen.nil))) rfl) sc__law_wrong_right.nd) (dss_cons (ds_setLc (i := 12) [("row", 20)] rfl sc__law_wrong_right.nd (dj_of (di_seq (de_v 3))) (blk_of (N := ["pot", "plant", "many", "rows", "lines", "at", "odd", "texts", "late", "first", "own", "place", "less", "memory", "each", "one", "some", "due", "text", "owner", "row", "line"]) (sc := d__law_wrong_right.scope) (by decide +kernel)) (by decide) (fun _ _ _ _ _ => dg_v 20 sc__law_wrong_right.nd) (fun _ _ _ _ _ => dts_one (dt_w (dw_or (dt_cmp2 (op_ne.or (op_neD hu)) opb_ne (db_of (de_sl (db_v 20) (do_no) (do_at (db_of (de_int))))) (db_of (de_tup (da_cons (de_int) (da_nil))))) (dw_or1 (dt_cmp2 (op_ne.or (op_neD hu)) opb_ne (db_of (de_ix (db_v 20) (db_of (de_int)))) (db_v 11)))))) (fun _ _ _ _ _ => de_v 20) (sw_true rfl rfl rfl rfl)) (dss_cons (ds_set 12 (de_add (db_of (de_frz (dn_lst (da_cons (de_add (db_of (de_str)) (db_of (de_ty call_str_int cb_str rfl (c.free 9 rfl) bo_str (dab_cons (db_v 2) (dab_nil))))) (da_nil))))) (db_of (de_frz (dn_lc [("row", 20)] rfl sc__law_wrong_right.nd (dj_of (di_seq (de_v 12))) (blk_of (N := ["pot", "plant", "many", "rows", "lines", "at", "odd", "texts", "late", "first", "own", "place", "less", "memory", "each", "one", "some", "due", "text", "owner", "row", "line"]) (sc := d__law_wrong_right.scope) (by decide +kernel)) (by decide) (fun _ _ _ _ _ => dg_v 20 sc__law_wrong_right.nd) (fun _ _ _ _ _ => dts_nil) (fun _ _ _ _ _ => de_call (ok__law_line c) bp__law_line (hr.mono (by decide)) hgd takes0 (da_cons (de_v 20) (da_nil)) (ALen.cons (ALen.nil)) rfl))))) sc__law_wrong_right.nd) (dss_cons (ds_app 7 (de_tup (da_cons (de_v 12) (da_cons (de_bi call_len cb_len rfl (c.free 4 rfl) bo_len (dab_cons (db_v 12) (dab_nil))) (da_nil))))) (dss_cons (ds_parN rfl (dm_val (de_call (ok__law_draw c) bp__law_draw (hr.mono (by decide)) hgd (takes_of rfl rfl rfl rfl) (da_cons (de_v 0) (da_cons (de_v 2) (da_nil))) (ALen.cons (ALen.cons (ALen.nil))) rfl) (dm_new (dn_lst (da_cons (de_add (db_of (de_str)) (db_of (de_ty call_str_int cb_str rfl (c.free 9 rfl) bo_str (dab_cons (db_v 2) (dab_nil))))) (da_nil))) (dm_nil))) (nm_cons 13 sc__law_wrong_right.nd (nm_cons 14 sc__law_wrong_right.nd (nm_nil)))) (dss_cons (ds_for (passes_of rfl) rfl (di_range1 (da_cons (de_v 2) (da_nil)) (ALen.cons (ALen.nil)) rfl (c.free 18 rfl)) (dg_v 15 sc__law_wrong_right.nd) (dss_cons (ds_ext 14 (db_of (de_frz (dn_lc [("at", 5)] rfl sc__law_wrong_right.nd (dj_of (di_seq (de_v 10))) (blk_of (N := ["pot", "plant", "many", "rows", "lines", "at", "odd", "texts", "late", "first", "own", "place", "less", "memory", "each", "one", "some", "due", "text", "owner", "row", "line"]) (sc := d__law_wrong_right.scope) (by decide +kernel)) (by decide) (fun _ _ _ _ _ => dg_v 5 sc__law_wrong_right.nd) (fun _ _ _ _ _ => dts_one (dt_cmp2 (op_ne.or (op_neD hu)) opb_ne (db_of (de_tup (da_cons (de_v 15) (da_cons (de_v 5) (da_nil))))) (db_of (de_tup (da_cons (de_v 13) (da_cons (de_v 11) (da_nil))))))) (fun _ _ _ _ _ => de_call (ok__law_line c) bp__law_line (hr.mono (by decide)) hgd takes0 (da_cons (de_tup (da_cons (de_int) (da_cons (de_v 15) (da_cons (de_v 5) (da_cons (de_int) (da_nil)))))) (da_nil)) (ALen.cons (ALen.nil)) rfl))))) (dss_kill0 [15]))) (dss_fz (dss_kill [15] (dss_one (ds_app 7 (de_tup (da_cons (de_v 14) (da_cons (de_bi call_len cb_len rfl (c.free 4 rfl) bo_len (dab_cons (db_v 14) (dab_nil))) (da_nil)))))))))))))) (dss_nil)) (dss_fz (dss_cons (ds_for (passes_of rfl) rfl (di_seq (de_v 7)) (dg_t rfl (dgs_cons (dg_v 16 sc__law_wrong_right.nd) (dgs_cons (dg_v 17 sc__law_wrong_right.nd) (dgs_nil)))) (dss_cons (ds_set 18 (de_join (de_str) (db_of (de_frz (dn_lc [("line", 21)] rfl sc__law_wrong_right.nd (dj_of (di_seq (de_v 16))) (blk_of (N := ["pot", "plant", "many", "rows", "lines", "at", "odd", "texts", "late", "first", "own", "place", "less", "memory", "each", "one", "some", "due", "text", "owner", "row", "line"]) (sc := d__law_wrong_right.scope) (by decide +kernel)) (by decide) (fun _ _ _ _ _ => dg_v 21 sc__law_wrong_right.nd) (fun _ _ _ _ _ => dts_nil) (fun _ _ _ _ _ => de_add (db_v 21) (db_of (de_str))))))) sc__law_wrong_right.nd) (dss_cons (ds_if (dt_cmp2 (op_ne.or (op_neD hu)) opb_ne (db_of (de_repr c.sys hgd hu rfl (c.free 27 rfl) bo_repr (dab_cons (db_of (de_call (ok__law_heard c) bp__law_heard (hr.mono (by decide)) hgd (takes_of rfl rfl rfl rfl) (da_cons (de_v 1) (da_cons (de_v 18) (da_nil))) (ALen.cons (ALen.cons (ALen.nil))) rfl)) (dab_nil)))) (db_of (de_repr c.sys hgd hu rfl (c.free 27 rfl) bo_repr (dab_cons (db_of (de_frz (dn_lst (da_cons (de_str) (da_cons (de_v 17) (da_cons (de_bl) (da_nil))))))) (dab_nil))))) (dss_one (ds_ret (de_bl))) (dss_nil)) (dss_cons (ds_if (dt_w (dw_and (dt_cmp2 (op_ne.or (op_neD hu)) opb_ne (db_v 16) (db_of (de_frz (dn_lst (da_nil))))) (dw_and (dt_cmp2 (op_ne.or (op_neD hu)) opb_ne (db_of (de_ix (db_v 16) (db_of (de_neg (de_int))))) (db_of (de_str))) (dw_and1 (dt_cmp2 (op_ne.or (op_neD hu)) opb_ne (db_of (de_repr c.sys hgd hu rfl (c.free 27 rfl) bo_repr (dab_cons (db_of (de_call (ok__law_heard c) bp__law_heard (hr.mono (by decide)) hgd (takes_of rfl rfl rfl rfl) (da_cons (de_v 1) (da_cons (de_sl (db_v 18) (do_no) (do_at (db_of (de_neg (de_int))))) (da_nil))) (ALen.cons (ALen.cons (ALen.nil))) rfl)) (dab_nil)))) (db_of (de_repr c.sys hgd hu rfl (c.free 27 rfl) bo_repr (dab_cons (db_of (de_frz (dn_lst (da_cons (de_str) (da_cons (de_v 17) (da_cons (de_bl) (da_nil))))))) (dab_nil))))))))) (dss_one (ds_ret (de_bl))) (dss_nil)) (dss_kill0 [17, 16, 18]))))) (dss_kill [17, 16, 18] (dss_cons (ds_set 18 (de_join (de_str) (db_v 4)) sc__law_wrong_right.nd) (dss_one (ds_ret (de_cmp2 (op_eq.or (op_eqD hu)) opb_eq (db_of (de_repr c.sys hgd hu rfl (c.free 27 rfl) bo_repr (dab_cons (db_of (de_call (ok__law_heard c) bp__law_heard (hr.mono (by decide)) hgd (takes_of rfl rfl rfl rfl) (da_cons (de_v 1) (da_cons (de_v 18) (da_nil))) (ALen.cons (ALen.cons (ALen.nil))) rfl)) (dab_nil)))) (db_of (de_repr c.sys hgd hu rfl (c.free 27 rfl) bo_repr (dab_cons (db_of (de_frz (dn_lst (da_cons (de_str) (da_cons (de_sub (db_of (de_bi call_len cb_len rfl (c.free 4 rfl) bo_len (dab_cons (db_v 4) (dab_nil)))) (db_of (de_int))) (da_cons (de_bl) (da_nil))))))) (dab_nil)))))))))))))))))))))
theorem sc__law_right : FnScope ["pot", "plant", "many", "hand", "rows", "shown", "text", "due", "odd"] ["pot"] d__law_right.scope := ⟨rfl, rfl, rfl, by decide +kernel, rfl, by decide +kernel, by decide +kernel⟩
def g__law_right : Es := sSeq (sPar [1, 2] (mVal (eCall F__law_plant (aCons (eV 0) (aCons (eBin2 oAdd (eC (.int 1)) (eCall F__law_draw (aCons (eV 0) (aCons (eC (.int 4)) (aNil))))) (aCons (eBin2 oAdd (eC (.int 1)) (eCall F__law_draw (aCons (eV 0) (aCons (eC (.int 4)) (aNil))))) (aNil))))) (mVal (eBin2 oAdd (eC (.int 1)) (eCall F__law_pick (aCons (eV 0) (aCons (eFrz (nLst (aCons (eC (.int 0)) (aCons (eC (.int 1)) (aCons (eC (.int 2)) (aCons (eC (.int 3)) (aCons (eC (.int 11)) (aNil)))))))) (aNil))))) (mNil)))) (sSeq (sPar [3, 4] (mVal (eCall F__law_hand (aCons (eV 0) (aCons (eV 1) (aCons (eV 2) (aNil))))) (mVal (eCall F__law_drawn_rows (aCons (eV 0) (aCons (eV 1) (aCons (eV 2) (aNil))))) (mNil)))) (sSeq (sPar [5, 6] (mVal (eFn bRepr (aCons (eFrz (nLst (aCons (eV 1) (aCons (eV 3) (aNil))))) (aNil))) (mVal (eCall F__law_text (aCons (eV 2) (aCons (eCall F__law_rows (aCons (eV 3) (aNil))) (aNil)))) (mNil)))) (sSeq (sIf (toB (eBin2 oNe (eFn bRepr (aCons (eFrz (nLst (aCons (eCall F_hand_text (aCons (eV 1) (aCons (eV 3) (aNil)))) (aCons (eCallK F_hand_text [1, 0] (aCons (eV 3) (aCons (eV 1) (aNil)))) (aNil))))) (aNil))) (eFn bRepr (aCons (eFrz (nLst (aCons (eV 6) (aCons (eV 6) (aNil))))) (aNil))))) (sRt (eC (.bl false))) (sNx)) (sSeq (sIf (toB (eBin2 oNe (eFn bRepr (aCons (eFrz (nLst (aCons (eCall F_hand_of_text (aCons (eV 1) (aCons (eV 6) (aNil)))) (aCons (eCallK F_hand_of_text [1, 0] (aCons (eV 6) (aCons (eV 1) (aNil)))) (aNil))))) (aNil))) (eFn bRepr (aCons (eFrz (nLst (aCons (eV 3) (aCons (eV 3) (aNil))))) (aNil))))) (sRt (eC (.bl false))) (sNx)) (sSeq (sSet 7 (eCall F__law_told (aCons (eV 1) (aCons (eV 2) (aCons (eV 4) (aNil)))))) (sSeq (sIf (bOr (toB (eBin2 oNe (eFn bRepr (aCons (eCall F__law_heard (aCons (eV 1) (aCons (eCall F__law_text (aCons (eV 2) (aCons (eV 4) (aNil)))) (aNil)))) (aNil))) (eFn bRepr (aCons (eVb 7) (aNil))))) (toB (eBin2 oNe (eFn bRepr (aCons (eFrz (nLst (aCons (eV 1) (aCons (eV 3) (aNil))))) (aNil))) (eVb 5)))) (sRt (eC (.bl false))) (sNx)) (sSeq (sSet 8 (eCall F__law_pick (aCons (eV 0) (aCons (eFrz (nLst (aCons (eC .non) (aCons (eC (.int 0)) (aCons (eC (.bl true)) (aCons (eFrz (nLst (aNil))) (aCons (eFrz (nLst (aCons (eV 6) (aNil)))) (aCons (eTup (aCons (eV 6) (aNil))) (aCons (eEmp) (aNil)))))))))) (aNil))))) (sSeq (sIf (toB (eBin2 oNe (eFn bRepr (aCons (eCall F__law_heard (aCons (eV 1) (aCons (eV 8) (aNil)))) (aNil))) (eFn bRepr (aCons (eFrz (nLst (aCons (eC (.str "text")) (aCons (eV 8) (aCons (eC (.bl true)) (aNil)))))) (aNil))))) (sRt (eC (.bl false))) (sNx)) (sRt (eCall F__law_wrong_right (aCons (eV 0) (aCons (eV 1) (aCons (eV 2) (aCons (eV 4) (aNil)))))))))))))))
def F__law_right : Fn := fnOf 9 g__law_right
theorem ok__law_right {P : Program} {w : World} {K : PySem.W.Frag} {mg : PySem.Str → Option Value} {base : Heap} (c : C K mg base) : OkD P w K mg base d__law_right ["pot"] 11 F__law_right :=
  OkD.mk (N := ["pot", "plant", "many", "hand", "rows", "shown", "text", "due", "odd"]) (f := He.ga K "_law_right") (fd := (c.says.def_ 41 (d := d__law_right) rfl).choose) (g := g__law_right) (c.glo 70 rfl) (c.says.def_ 41 (d := d__law_right) rfl).choose_spec sc__law_right fun cdv A outer s H E B hr hgd =>
    have hu0 := hr.units0; have hu := hr.units; have hu1 := u1_of hr; have hu65 := u65_of hr
    dss_cons (ds_par2 (i := 1) (j := 2) rfl sc__law_right.nd (dm_val (de_call (ok__law_plant c) bp__law_plant (hr.mono (by decide)) hgd (takes_of rfl rfl rfl rfl) (da_cons (de_v 0) (da_cons (de_add (db_of (de_int)) (db_of (de_call (ok__law_draw c) bp__law_draw (hr.mono (by decide)) hgd (takes_of rfl rfl rfl rfl) (da_cons (de_v 0) (da_cons (de_int) (da_nil))) (ALen.cons (ALen.cons (ALen.nil))) rfl))) (da_cons (de_add (db_of (de_int)) (db_of (de_call (ok__law_draw c) bp__law_draw (hr.mono (by decide)) hgd (takes_of rfl rfl rfl rfl) (da_cons (de_v 0) (da_cons (de_int) (da_nil))) (ALen.cons (ALen.cons (ALen.nil))) rfl))) (da_nil)))) (ALen.cons (ALen.cons (ALen.cons (ALen.nil)))) rfl) (dm_val (de_add (db_of (de_int)) (db_of (de_call (ok__law_pick c) bp__law_pick (hr.mono (by decide)) hgd (takes_of rfl rfl rfl rfl) (da_cons (de_v 0) (da_cons (de_frz (dn_lst (da_cons (de_int) (da_cons (de_int) (da_cons (de_int) (da_cons (de_int) (da_cons (de_int) (da_nil)))))))) (da_nil))) (ALen.cons (ALen.cons (ALen.nil))) rfl))) (dm_nil)))) (dss_cons (ds_par2 (i := 3) (j := 4) rfl sc__law_right.nd (dm_val (de_call (ok__law_hand c) bp__law_hand (hr.mono (by decide)) hgd (takes_of rfl rfl rfl rfl) (da_cons (de_v 0) (da_cons (de_v 1) (da_cons (de_v 2) (da_nil)))) (ALen.cons (ALen.cons (ALen.cons (ALen.nil)))) rfl) (dm_val (de_call (ok__law_drawn_rows c) bp__law_drawn_rows (hr.mono (by decide)) hgd (takes_of rfl rfl rfl rfl) (da_cons (de_v 0) (da_cons (de_v 1) (da_cons (de_v 2) (da_nil)))) (ALen.cons (ALen.cons (ALen.cons (ALen.nil)))) rfl) (dm_nil)))) (dss_cons (ds_par2 (i := 5) (j := 6) rfl sc__law_right.nd (dm_val (de_repr c.sys hgd hu rfl (c.free 27 rfl) bo_repr (dab_cons (db_of (de_frz (dn_lst (da_cons (de_v 1) (da_cons (de_v 3) (da_nil)))))) (dab_nil))) (dm_val (de_call (ok__law_text c) bp__law_text (hr.mono (by decide)) hgd (takes_of rfl rfl rfl rfl) (da_cons (de_v 2) (da_cons (de_call (ok__law_rows c) bp__law_rows (hr.mono (by decide)) hgd (takes_of rfl rfl rfl rfl) (da_cons (de_v 3) (da_nil)) (ALen.cons (ALen.nil)) rfl) (da_nil))) (ALen.cons (ALen.cons (ALen.nil))) rfl) (dm_nil)))) (dss_cons (ds_if (dt_cmp2 (op_ne.or (op_neD hu)) opb_ne (db_of (de_repr c.sys hgd hu rfl (c.free 27 rfl) bo_repr (dab_cons (db_of (de_frz (dn_lst (da_cons (de_call (ok_hand_text c) bp_hand_text (hr.mono (by decide)) hgd (takes_of rfl rfl rfl rfl) (da_cons (de_v 1) (da_cons (de_v 3) (da_nil))) (ALen.cons (ALen.cons (ALen.nil))) rfl) (da_cons (de_callK (ks := ["hand", "plant"]) [1, 0] (ok_hand_text c) (bk_hand_text_10) (hr.mono (by decide)) hgd (takes_of rfl rfl rfl rfl) (dk_cons (de_v 3) (dk_cons (de_v 1) (dk_nil))) (ALen.cons (ALen.cons (ALen.nil))) rfl) (da_nil)))))) (dab_nil)))) (db_of (de_repr c.sys hgd hu rfl (c.free 27 rfl) bo_repr (dab_cons (db_of (de_frz (dn_lst (da_cons (de_v 6) (da_cons (de_v 6) (da_nil)))))) (dab_nil))))) (dss_one (ds_ret (de_bl))) (dss_nil)) (dss_cons (ds_if (dt_cmp2 (op_ne.or (op_neD hu)) opb_ne (db_of (de_repr c.sys hgd hu rfl (c.free 27 rfl) bo_repr (dab_cons (db_of (de_frz (dn_lst (da_cons (de_call (ok_hand_of_text c) bp_hand_of_text (hr.mono (by decide)) hgd (takes_of rfl rfl rfl rfl) (da_cons (de_v 1) (da_cons (de_v 6) (da_nil))) (ALen.cons (ALen.cons (ALen.nil))) rfl) (da_cons (de_callK (ks := ["text", "plant"]) [1, 0] (ok_hand_of_text c) (bk_hand_of_text_10) (hr.mono (by decide)) hgd (takes_of rfl rfl rfl rfl) (dk_cons (de_v 6) (dk_cons (de_v 1) (dk_nil))) (ALen.cons (ALen.cons (ALen.nil))) rfl) (da_nil)))))) (dab_nil)))) (db_of (de_repr c.sys hgd hu rfl (c.free 27 rfl) bo_repr (dab_cons (db_of (de_frz (dn_lst (da_cons (de_v 3) (da_cons (de_v 3) (da_nil)))))) (dab_nil))))) (dss_one (ds_ret (de_bl))) (dss_nil)) (dss_cons (ds_set 7 (de_call (ok__law_told c) bp__law_told (hr.mono (by decide)) hgd (takes_of rfl rfl rfl rfl) (da_cons (de_v 1) (da_cons (de_v 2) (da_cons (de_v 4) (da_nil)))) (ALen.cons (ALen.cons (ALen.cons (ALen.nil)))) rfl) sc__law_right.nd) (dss_cons (ds_if (dt_w (dw_or (dt_cmp2 (op_ne.or (op_neD hu)) opb_ne (db_of (de_repr c.sys hgd hu rfl (c.free 27 rfl) bo_repr (dab_cons (db_of (de_call (ok__law_heard c) bp__law_heard (hr.mono (by decide)) hgd (takes_of rfl rfl rfl rfl) (da_cons (de_v 1) (da_cons (de_call (ok__law_text c) bp__law_text (hr.mono (by decide)) hgd (takes_of rfl rfl rfl rfl) (da_cons (de_v 2) (da_cons (de_v 4) (da_nil))) (ALen.cons (ALen.cons (ALen.nil))) rfl) (da_nil))) (ALen.cons (ALen.cons (ALen.nil))) rfl)) (dab_nil)))) (db_of (de_repr c.sys hgd hu rfl (c.free 27 rfl) bo_repr (dab_cons (db_v 7) (dab_nil))))) (dw_or1 (dt_cmp2 (op_ne.or (op_neD hu)) opb_ne (db_of (de_repr c.sys hgd hu rfl (c.free 27 rfl) bo_repr (dab_cons (db_of (de_frz (dn_lst (da_cons (de_v 1) (da_cons (de_v 3) (da_nil)))))) (dab_nil)))) (db_v 5))))) (dss_one (ds_ret (de_bl))) (dss_nil)) (dss_cons (ds_set 8 (de_call (ok__law_pick c) bp__law_pick (hr.mono (by decide)) hgd (takes_of rfl rfl rfl rfl) (da_cons (de_v 0) (da_cons (de_frz (dn_lst (da_cons (de_non) (da_cons (de_int) (da_cons (de_bl) (da_cons (de_frz (dn_lst (da_nil))) (da_cons (de_frz (dn_lst (da_cons (de_v 6) (da_nil)))) (da_cons (de_tup (da_cons (de_v 6) (da_nil))) (da_cons (de_emp) (da_nil)))))))))) (da_nil))) (ALen.cons (ALen.cons (ALen.nil))) rfl) sc__law_right.nd) (dss_cons (ds_if (dt_cmp2 (op_ne.or (op_neD hu)) opb_ne (db_of (de_repr c.sys hgd hu rfl (c.free 27 rfl) bo_repr (dab_cons (db_of (de_call (ok__law_heard c) bp__law_heard (hr.mono (by decide)) hgd (takes_of rfl rfl rfl rfl) (da_cons (de_v 1) (da_cons (de_v 8) (da_nil))) (ALen.cons (ALen.cons (ALen.nil))) rfl)) (dab_nil)))) (db_of (de_repr c.sys hgd hu rfl (c.free 27 rfl) bo_repr (dab_cons (db_of (de_frz (dn_lst (da_cons (de_str) (da_cons (de_v 8) (da_cons (de_bl) (da_nil))))))) (dab_nil))))) (dss_one (ds_ret (de_bl))) (dss_nil)) (dss_one (ds_ret (de_call (ok__law_wrong_right c) bp__law_wrong_right (hr.mono (by decide)) hgd (takes_of rfl rfl rfl rfl) (da_cons (de_v 0) (da_cons (de_v 1) (da_cons (de_v 2) (da_cons (de_v 4) (da_nil))))) (ALen.cons (ALen.cons (ALen.cons (ALen.cons (ALen.nil))))) rfl)))))))))))
theorem sc__law_long_right : FnScope ["pot", "plant", "at", "text", "takes", "nexts", "memory"] ["pot"] d__law_long_right.scope := ⟨rfl, rfl, rfl, by decide +kernel, rfl, by decide +kernel, by decide +kernel⟩
def lt1__law_long_right : Tgt := gV 6
def lf1__law_long_right : Ev D := eTup (aCons (eIf (toB (eBin2 oEq (eVb 6) (eVb 2))) (eC (.int 1)) (eC (.int 0))) (aCons (eC .non) (aNil)))
def lt2__law_long_right : Tgt := gV 6
def lf2__law_long_right : Ev D := eTup (aCons (eV 6) (aCons (eC (.int 59)) (aCons (eV 6) (aCons (eV 6) (aNil)))))
def g__law_long_right : Es := sSeq (sSet 1 (eTup (aCons (eC (.str "plant")) (aCons (eC (.int 2)) (aCons (eTup (aCons (eC (.int 0)) (aCons (eC (.int 1)) (aNil)))) (aCons (eTup (aCons (eTup (aCons (eTup (aCons (eC (.int 0)) (aCons (eC (.int 0)) (aNil)))) (aCons (eTup (aCons (eC (.int 1)) (aCons (eC (.int 1)) (aNil)))) (aNil)))) (aCons (eTup (aCons (eTup (aCons (eC (.int 0)) (aCons (eC (.int 0)) (aNil)))) (aCons (eTup (aCons (eC (.int 1)) (aCons (eC (.int 0)) (aNil)))) (aNil)))) (aNil)))) (aNil))))))) (sSeq (sSet 2 (eCall F__law_draw (aCons (eV 0) (aCons (eC (.int 60)) (aNil))))) (sSeq (sSet 3 (eBin2 oAdd (eBin2 oAdd (eC (.str "memories 60\nin ")) (eFn bStr (aCons (eVb 2) (aNil)))) (eC (.str " at 0 take 1\nin * at 0 take 0\nin * after 1 go 59\nin 59 after 1 go 0\n")))) (sSeq (sSet 4 (eFn bTup (aCons (eFrz (nLc (iRange (aCons (eC (.int 60)) (aNil))) [6] (lt1__law_long_right) (bYes) (lf1__law_long_right))) (aNil)))) (sSeq (sSet 5 (eFn bTup (aCons (eFrz (nLc (iRange (aCons (eC (.int 60)) (aNil))) [6] (lt2__law_long_right) (bYes) (lf2__law_long_right))) (aNil)))) (sRt (eBin2 oEq (eFn bRepr (aCons (eCall F_hand_of_text (aCons (eV 1) (aCons (eV 3) (aNil)))) (aNil))) (eFn bRepr (aCons (eTup (aCons (eC (.str "hand")) (aCons (eV 4) (aCons (eV 5) (aNil))))) (aNil)))))))))
def F__law_long_right : Fn := fnOf 7 g__law_long_right
theorem ok__law_long_right {P : Program} {w : World} {K : PySem.W.Frag} {mg : PySem.Str → Option Value} {base : Heap} (c : C K mg base) : OkD P w K mg base d__law_long_right ["pot"] 9 F__law_long_right :=
  OkD.mk (N := ["pot", "plant", "at", "text", "takes", "nexts", "memory"]) (f := He.ga K "_law_long_right") (fd := (c.says.def_ 42 (d := d__law_long_right) rfl).choose) (g := g__law_long_right) (c.glo 71 rfl) (c.says.def_ 42 (d := d__law_long_right) rfl).choose_spec sc__law_long_right fun cdv A outer s H E B hr hgd =>
    have hu0 := hr.units0; have hu := hr.units; have hu1 := u1_of hr; have hu65 := u65_of hr
    dss_cons (ds_set 1 (de_tup (da_cons (de_str) (da_cons (de_int) (da_cons (de_tup (da_cons (de_int) (da_cons (de_int) (da_nil)))) (da_cons (de_tup (da_cons (de_tup (da_cons (de_tup (da_cons (de_int) (da_cons (de_int) (da_nil)))) (da_cons (de_tup (da_cons (de_int) (da_cons (de_int) (da_nil)))) (da_nil)))) (da_cons (de_tup (da_cons (de_tup (da_cons (de_int) (da_cons (de_int) (da_nil)))) (da_cons (de_tup (da_cons (de_int) (da_cons (de_int) (da_nil)))) (da_nil)))) (da_nil)))) (da_nil)))))) sc__law_long_right.nd) (dss_cons (ds_set 2 (de_call (ok__law_draw c) bp__law_draw (hr.mono (by decide)) hgd (takes_of rfl rfl rfl rfl) (da_cons (de_v 0) (da_cons (de_int) (da_nil))) (ALen.cons (ALen.cons (ALen.nil))) rfl) sc__law_long_right.nd) (dss_cons (ds_set 3 (de_add (db_of (de_add (db_of (de_str)) (db_of (de_ty call_str_int cb_str rfl (c.free 9 rfl) bo_str (dab_cons (db_v 2) (dab_nil)))))) (db_of (de_str))) sc__law_long_right.nd) (dss_cons (ds_set 4 (de_ty call_tuple_of cb_tup rfl (c.free 3 rfl) bo_tuple (dab_cons (db_of (de_frz (dn_lc [("memory", 6)] rfl sc__law_long_right.nd (dj_of (di_range1 (da_cons (de_int) (da_nil)) (ALen.cons (ALen.nil)) rfl (c.free 18 rfl))) (blk_of (N := ["pot", "plant", "at", "text", "takes", "nexts", "memory"]) (sc := d__law_long_right.scope) (by decide +kernel)) (by decide) (fun _ _ _ _ _ => dg_v 6 sc__law_long_right.nd) (fun _ _ _ _ _ => dts_nil) (fun _ _ _ _ _ => de_tup (da_cons (de_if (dt_cmp2 (op_eq.or (op_eqD hu)) opb_eq (db_v 6) (db_v 2)) (de_int) (de_int)) (da_cons (de_non) (da_nil))))))) (dab_nil))) sc__law_long_right.nd) (dss_cons (ds_set 5 (de_ty call_tuple_of cb_tup rfl (c.free 3 rfl) bo_tuple (dab_cons (db_of (de_frz (dn_lc [("memory", 6)] rfl sc__law_long_right.nd (dj_of (di_range1 (da_cons (de_int) (da_nil)) (ALen.cons (ALen.nil)) rfl (c.free 18 rfl))) (blk_of (N := ["pot", "plant", "at", "text", "takes", "nexts", "memory"]) (sc := d__law_long_right.scope) (by decide +kernel)) (by decide) (fun _ _ _ _ _ => dg_v 6 sc__law_long_right.nd) (fun _ _ _ _ _ => dts_nil) (fun _ _ _ _ _ => de_tup (da_cons (de_v 6) (da_cons (de_int) (da_cons (de_v 6) (da_cons (de_v 6) (da_nil))))))))) (dab_nil))) sc__law_long_right.nd) (dss_one (ds_ret (de_cmp2 (op_eq.or (op_eqD hu)) opb_eq (db_of (de_repr c.sys hgd hu rfl (c.free 27 rfl) bo_repr (dab_cons (db_of (de_call (ok_hand_of_text c) bp_hand_of_text (hr.mono (by decide)) hgd (takes_of rfl rfl rfl rfl) (da_cons (de_v 1) (da_cons (de_v 3) (da_nil))) (ALen.cons (ALen.cons (ALen.nil))) rfl)) (dab_nil)))) (db_of (de_repr c.sys hgd hu rfl (c.free 27 rfl) bo_repr (dab_cons (db_of (de_tup (da_cons (de_str) (da_cons (de_v 4) (da_cons (de_v 5) (da_nil)))))) (dab_nil)))))))))))
theorem sc_law : FnScope ["script", "pots", "k", "pot"] ["script"] d_law.scope := ⟨rfl, rfl, rfl, by decide +kernel, rfl, by decide +kernel, by decide +kernel⟩
def lt1_law : Tgt := gV 2
def lf1_law : Ev D := eCall F__law_pot (aCons (eV 0) (aCons (eV 2) (aNil)))
def lt2_law : Tgt := gV 3
def lf2_law : Ev D := eCall F__law_right (aCons (eV 3) (aNil))
def g_law : Es := sSeq (sSet 1 (eFrz (nLc (iRange (aCons (eFn bMax2 (aCons (eC (.int 1)) (aCons (eFn bMin2 (aCons (eC (.int 3)) (aCons (eFn bLen (aCons (eVb 0) (aNil))) (aNil)))) (aNil)))) (aNil))) [2] (lt1_law) (bYes) (lf1_law)))) (sRt (eAnd (eFn bAll (aCons (eFrz (nLc (iSeq (eV 1)) [3] (lt2_law) (bYes) (lf2_law))) (aNil))) (eCall F__law_long_right (aCons (eBin2 oIx (eVb 1) (eC (.int 0))) (aNil)))))
def F_law : Fn := fnOf 4 g_law
theorem ok_law {P : Program} {w : World} {K : PySem.W.Frag} {mg : PySem.Str → Option Value} {base : Heap} (c : C K mg base) : OkD P w K mg base d_law ["script"] 12 F_law :=
  OkD.mk (N := ["script", "pots", "k", "pot"]) (f := He.ga K "law") (fd := (c.says.def_ 43 (d := d_law) rfl).choose) (g := g_law) (c.glo 72 rfl) (c.says.def_ 43 (d := d_law) rfl).choose_spec sc_law fun cdv A outer s H E B hr hgd =>
    have hu0 := hr.units0; have hu := hr.units; have hu1 := u1_of hr; have hu65 := u65_of hr
    dss_cons (ds_setLc (i := 1) [("k", 2)] rfl sc_law.nd (dj_of (di_range1 (da_cons (de_bi (call_max2 rfl) cb_max2 rfl (c.free 22 rfl) bo_max (dab_cons (db_of (de_int)) (dab_cons (db_of (de_bi (call_min2 rfl) cb_min2 rfl (c.free 28 rfl) bo_min (dab_cons (db_of (de_int)) (dab_cons (db_of (de_bi call_len cb_len rfl (c.free 4 rfl) bo_len (dab_cons (db_v 0) (dab_nil)))) (dab_nil))))) (dab_nil)))) (da_nil)) (ALen.cons (ALen.nil)) rfl (c.free 18 rfl))) (blk_of (N := ["script", "pots", "k", "pot"]) (sc := d_law.scope) (by decide +kernel)) (by decide) (fun _ _ _ _ _ => dg_v 2 sc_law.nd) (fun _ _ _ _ _ => dts_nil) (fun _ _ _ _ _ => de_call (ok__law_pot c) bp__law_pot (hr.mono (by decide)) hgd takes0 (da_cons (de_v 0) (da_cons (de_v 2) (da_nil))) (ALen.cons (ALen.cons (ALen.nil))) rfl) (sw_true rfl rfl rfl rfl)) (dss_one (ds_ret (de_and (de_bi (cr_all rfl) cb_all rfl (c.free 6 rfl) bo_all (dab_cons (db_of (de_frz (dn_lc [("pot", 3)] rfl sc_law.nd (dj_of (di_seq (de_v 1))) (blk_of (N := ["script", "pots", "k", "pot"]) (sc := d_law.scope) (by decide +kernel)) (by decide) (fun _ _ _ _ _ => dg_v 3 sc_law.nd) (fun _ _ _ _ _ => dts_nil) (fun _ _ _ _ _ => de_call (ok__law_right c) bp__law_right (hr.mono (by decide)) hgd takes0 (da_cons (de_v 3) (da_nil)) (ALen.cons (ALen.nil)) rfl)))) (dab_nil))) (de_one (de_call (ok__law_long_right c) bp__law_long_right (hr.mono (by decide)) hgd (takes_of rfl rfl rfl rfl) (da_cons (de_ix (db_v 1) (db_of (de_int))) (da_nil)) (ALen.cons (ALen.nil)) rfl)))))
end K75
set_option Elab.async false
set_option linter.all false
set_option maxRecDepth 100000
set_option maxHeartbeats 4000000
namespace K75
open PySem L2 DL
/-! ### numbers -/
theorem is_integer_int (i : Int) (S : Store) : F_is_integer [.int i] S = .ok (.bl true) S := by
  simp [F_is_integer, fnOf, g_is_integer, Kd.isa]
theorem is_integer_non (S : Store) : F_is_integer [.non] S = .ok (.bl false) S := by
  simp [F_is_integer, fnOf, g_is_integer, Kd.isa]
theorem is_count_int (i : Int) (S : Store) : F_is_count [.int i] S = .ok (.bl (decide (0 ≤ i))) S := by
  simp [F_is_count, fnOf, g_is_count, is_integer_int]
theorem mulOk_small {i j : Int} (h1 : -18446744073709551616 < j) (h2 : j < 18446744073709551616) : mulOk i j = true := by
  unfold mulOk
  simp
  right
  omega
theorem divOk_of {i j : Int} (h1 : 0 < j) (h2 : j < 1073741824) : divOk i j = true := by
  unfold divOk
  simp
  omega
/-! ### pots -/
def Pot (S : Store) (p : Nat) : Prop := ∃ a b : Int, S[p]? = some (.lst [.int a, .int b]) ∧ 0 ≤ a ∧ 0 ≤ b ∧ b < 4294967296
/-- all pots stay pots -/
def NL (S : Store) : Prop := S.all noLstO = true
/-- all pots stay pots; objects stay without lists -/
def Evo (S S' : Store) : Prop := (∀ q, Pot S q → Pot S' q) ∧ (NL S → NL S')
theorem Evo.refl (S : Store) : Evo S S := ⟨fun _ h => h, fun h => h⟩
theorem Evo.trans {A B C : Store} (h : Evo A B) (k : Evo B C) : Evo A C := ⟨fun q x => k.1 q (h.1 q x), fun x => k.2 (h.2 x)⟩
theorem Evo.app (S X : Store) (hX : NL X) : Evo S (S ++ X) := ⟨fun q ⟨a, b, h, r⟩ => ⟨a, b, by rw [List.getElem?_append_left (List.getElem?_eq_some_iff.mp h).1]; exact h, r⟩, fun h => by
  unfold NL at *
  rw [List.all_append, h, hX]; rfl⟩
theorem nl_pot (a b : Int) : noLstO (.lst [.int a, .int b]) = true := by simp [noLstO, noLstL, noLst]
theorem nl_pot1 (a b : Int) : NL [.lst [.int a, .int b]] := by unfold NL; simp [nl_pot]
theorem nl_set {S : Store} {p : Nat} {o : SO} (h : NL S) (ho : noLstO o = true) : NL (S.set p o) := by
  unfold NL at *
  rw [List.all_eq_true] at *
  intro x hx
  rcases List.mem_or_eq_of_mem_set hx with h1 | h1
  · exact h x h1
  · rw [h1]; exact ho
theorem evo_set {S : Store} {p : Nat} {a b : Int} (hp : p < S.length) (ha : 0 ≤ a) (hb : 0 ≤ b) (hb2 : b < 4294967296) : Evo S (S.set p (.lst [.int a, .int b])) := ⟨fun q h => by
  by_cases e : p = q
  · subst e
    exact ⟨a, b, List.getElem?_set_self hp, ha, hb, hb2⟩
  · obtain ⟨a', b', h1, h2⟩ := h
    exact ⟨a', b', by rw [List.getElem?_set_ne e]; exact h1, h2⟩, fun h => nl_set h (nl_pot a b)⟩
theorem ix_loc {S : Store} {p : Nat} {ds : List D} (h : S[p]? = some (.lst ds)) (i : Int) : oIx S (.loc p) (.int i) = L2.atI ds i := by
  show (match viewL S (.loc p) with | some ds => L2.atI ds i | none => none) = _
  have e : viewL S (.loc p) = some ds := by
    show (match S[p]? with | some (.lst ds) => some ds | _ => none) = _
    rw [h]
  rw [e]
theorem draw {S : Store} {p : Nat} {m : Int} (h : Pot S p) (h1 : 1 ≤ m) (h2 : m < 1073741824) : ∃ (d : Int) (S' : Store), F__law_draw [.loc p, .int m] S = .ok (.int d) S' ∧ Evo S S' ∧ 0 ≤ d ∧ d < m := by
  obtain ⟨a, b, hS, ha, hb, hb2⟩ := h
  have hp : p < S.length := (List.getElem?_eq_some_iff.mp hS).1
  have i0 := ix_loc hS
  by_cases h : 0 < a
  · refine ⟨a % m, S.set p (.lst [.int (a / m), .int b]), ?_, evo_set hp (Int.ediv_nonneg ha (by omega)) hb hb2, Int.emod_nonneg _ (by omega), Int.emod_lt_of_pos _ (by omega)⟩
    have hd : divOk a m = true := divOk_of (by omega) h2
    simp [F__law_draw, fnOf, g__law_draw, i0, hS, h, hd]
  · have h3 : mulOk b 40692 = true := mulOk_small (by omega) (by omega)
    have e0 : 0 ≤ (b * 40692 + 9293) % 2147483587 := Int.emod_nonneg _ (by omega)
    have e1 : (b * 40692 + 9293) % 2147483587 < 2147483587 := Int.emod_lt_of_pos _ (by omega)
    generalize hz : (b * 40692 + 9293) % 2147483587 = z at e0 e1
    have h4 : mulOk z z = true := mulOk_small (by omega) (by omega)
    have h5 : divOk (z * z % 2147483549) 17 = true := divOk_of (by omega) (by omega)
    have h6 : 0 < m := by omega
    have hS2 : (S.set p (.lst [.int a, .int z]))[p]? = some (.lst [.int a, .int z]) := List.getElem?_set_self hp
    have i1 := ix_loc hS2
    refine ⟨z * z % 2147483549 / 17 % m, S.set p (.lst [.int a, .int z]), ?_, evo_set hp ha e0 (by omega), Int.emod_nonneg _ (by omega), Int.emod_lt_of_pos _ (by omega)⟩
    simp [F__law_draw, fnOf, g__law_draw, i0, i1, hS, h, h3, h4, h5, h6, hz]
theorem powOk_18 : powOk 10 18 = true := by decide
theorem pot_fin (S : Store) (cell c : Int) (hc : 0 ≤ cell) : Pot (S ++ [.lst [.int (if cell - 1000000000000000000 > 0 then cell - 1000000000000000000 else 0), .int ((cell % 2147483549 * 40014 + c + 457) % 2147483563 + 1)]]) S.length := by
  refine ⟨_, _, by simp; exact ⟨rfl, rfl⟩, ?_, ?_, ?_⟩
  · split <;> omega
  · have := Int.emod_nonneg (cell % 2147483549 * 40014 + c + 457) (b := 2147483563) (by omega)
    omega
  · have := Int.emod_lt_of_pos (cell % 2147483549 * 40014 + c + 457) (b := 2147483563) (by omega)
    omega
theorem pot_core (S : Store) (NS : List D) (n k : Int) (hk : k < NS.length) (hn : L2.atI NS k = some (.int n)) (k0 : mulOk 6163 k = true) (k1 : mulOk ((if n < 0 then -n else n) % 2147483549) 40014 = true) : F__law_pot [.kst NS, .int k] S =
    .ok (.loc S.length) (S ++ [.lst [.int (if (if n < 0 then -n else n) - 1000000000000000000 > 0 then (if n < 0 then -n else n) - 1000000000000000000 else 0), .int (((if n < 0 then -n else n) % 2147483549 * 40014 + 6163 * k + 457) % 2147483563 + 1)]]) := by
  have p18 := powOk_18
  simp [F__law_pot, fnOf, g__law_pot, k0, k1, hk, hn, p18]
theorem pot_core0 (S : Store) (NS : List D) (k : Int) (hk : ¬ k < NS.length) (k0 : mulOk 6163 k = true) (k2 : mulOk 743 k = true) (k1 : mulOk ((743 * k + 113) % 2147483549) 40014 = true) : F__law_pot [.kst NS, .int k] S =
    .ok (.loc S.length) (S ++ [.lst [.int (if (743 * k + 113) - 1000000000000000000 > 0 then (743 * k + 113) - 1000000000000000000 else 0), .int (((743 * k + 113) % 2147483549 * 40014 + 6163 * k + 457) % 2147483563 + 1)]]) := by
  have p18 := powOk_18
  simp [F__law_pot, fnOf, g__law_pot, k0, k1, k2, hk, p18]
theorem law_pot (S : Store) (ns : List Int) (k : Int) (h0 : 0 ≤ k) (h1 : k < 100) : ∃ S', F__law_pot [.kst (ns.map .int), .int k] S = .ok (.loc S.length) S' ∧ Evo S S' ∧ Pot S' S.length ∧ S'.length = S.length + 1 := by
  by_cases hk : k < ns.length
  · obtain ⟨i, rfl⟩ : ∃ i : Nat, k = i := ⟨k.toNat, by omega⟩
    have hi : i < ns.length := by omega
    have e := pot_core S (ns.map .int) ns[i] i (by simpa using hk) (by rw [atI_nat (by simpa using hi)]; simp) (mulOk_small (by omega) (by omega)) (mulOk_small (by omega) (by omega))
    exact ⟨_, e, Evo.app _ _ (nl_pot1 _ _), pot_fin S _ _ (by split <;> omega), by simp⟩
  · have e := pot_core0 S (ns.map .int) k (by simpa using hk) (mulOk_small (by omega) (by omega)) (mulOk_small (by omega) (by omega)) (mulOk_small (by omega) (by omega))
    exact ⟨_, e, Evo.app _ _ (nl_pot1 _ _), pot_fin S _ _ (by omega), by simp⟩
theorem law_pick {S : Store} {p : Nat} (hp : Pot S p) (l : List D) (hl : 1 ≤ l.length) (hl2 : l.length ≤ 1000) : ∃ x S', F__law_pick [.loc p, .lst l] S = .ok x S' ∧ Evo S S' ∧ x ∈ l := by
  obtain ⟨d, S1, e1, hp1, d0, d1⟩ := draw hp (m := (l.length : Int)) (by omega) (by omega)
  have a := atI_int (l := l) (i := d) d0 (by omega)
  refine ⟨l[d.toNat], S1, ?_, hp1, List.getElem_mem _⟩
  simp [F__law_pick, fnOf, g__law_pick, e1, a]
end K75
set_option Elab.async false
set_option linter.all false
set_option maxRecDepth 100000
set_option maxHeartbeats 4000000
namespace K75
open PySem L2 DL
/-! ### data -/
abbrev Mv := Int × Int
def tI2 (m : Mv) : D := .tup [.int m.1, .int m.2]
def rowD (r : List Mv) : D := .tup (r.map tI2)
def tI3 (m : Int × Int × Int) : D := .tup [.int m.1, .int m.2.1, .int m.2.2]
def plD (L : Int) (ow : List Int) (rows : List (List Mv)) : D := .tup [.str "plant", .int L, .tup (ow.map .int), .tup (rows.map rowD)]
def opD : Option Int → D
  | none => .non
  | some i => .int i
def tkD (t : List (Option Int)) : D := .tup (t.map opD)
def nxD (t : List Int) : D := .tup (t.map .int)
def mcD (w : PySem.Str) (tk : List (List (Option Int))) (nx : List (List Int)) : D := .tup [.str w, .tup (tk.map tkD), .tup (nx.map nxD)]
def mvsA (n : Int) : List (List Mv) → List (Int × Int × Int)
  | [] => []
  | r :: rs => r.map (fun m => (n, m.1, m.2)) ++ mvsA (n + 1) rs
def mvs (rows : List (List Mv)) : List (Int × Int × Int) := mvsA 0 rows
def numsA (a : Int) : List (List Mv) → List (List Int)
  | [] => []
  | r :: rs => ((List.range r.length).map fun (i : Nat) => a + (i : Int)) :: numsA (a + (r.length : Int)) rs
def nums (rows : List (List Mv)) : List (List Int) := numsA 0 rows
theorem mvsA_length (n : Int) (rows : List (List Mv)) : (mvsA n rows).length = (rows.map List.length).sum := by
  induction rows generalizing n with
  | nil => rfl
  | cons r rs ih => simp [mvsA, ih]
theorem numsA_length (a : Int) (rows : List (List Mv)) : (numsA a rows).length = rows.length := by
  induction rows generalizing a with
  | nil => rfl
  | cons r rs ih => simp [numsA, ih]
/-! ### enumerate from a place -/
def enumF (n : Nat) : List D → List D
  | [] => []
  | d :: ds => .tup [.int (n : Int), d] :: enumF (n + 1) ds
theorem enumF_eq (ds : List D) : ∀ n, ds.mapIdx (fun i d => D.tup [.int ((n + i : Nat) : Int), d]) = enumF n ds := by
  induction ds with
  | nil => intro n; rfl
  | cons d ds ih =>
    intro n
    rw [List.mapIdx_cons]
    unfold enumF
    rw [← ih (n + 1)]
    simp [Nat.add_assoc, Nat.add_comm 1]
theorem enumD_eq (ds : List D) : enumD ds = enumF 0 ds := by
  rw [← enumF_eq]
  unfold enumD
  simp
/-! ### moves -/
theorem moves_loop (pl : D) (S : Store) (rows : List (List Mv)) : ∀ (n : Nat) (acc : List D), acc.length + (mvsA n rows).length ≤ 16777216 →
    forL t1_moves_of b1_moves_of (enumF n (rows.map rowD)) [some (.val pl), some (.own (.lst acc)), none, none, none, none] S = .nx [some (.val pl), some (.own (.lst (acc ++ (mvsA n rows).map tI3))), none, none, none, none] S := by
  induction rows with
  | nil => intro n acc _; simp [enumF, mvsA]
  | cons r rs ih =>
    intro n acc h
    have hl : acc.length + (r.length + (mvsA ((n : Int) + 1) rs).length) ≤ 16777216 := by simpa [mvsA] using h
    have e1 : ((n + 1 : Nat) : Int) = (n : Int) + 1 := by omega
    have e := ih (n + 1) (acc ++ r.map fun m => tI3 (n, m.1, m.2)) (by
      rw [List.length_append, List.length_map, e1]
      omega)
    have lc : lcL lt1_moves_of bYes lf1_moves_of [some (.val pl), some (.own (.lst acc)), some (.val (.int n)), some (.val (.tup (r.map tI2))), none, none] (r.map tI2) S = .ok (r.map fun m => tI3 (n, m.1, m.2)) S :=
      lcL_all tI2 (fun m => tI3 (n, m.1, m.2)) r fun m _ => by simp [lt1_moves_of, lf1_moves_of, tI2, tI3]
    have h1 : r.length ≤ 16777216 := by omega
    have h2 : acc.length + r.length ≤ 16777216 := by omega
    rw [List.map_cons, enumF, forL_nx (Γ1 := [some (.val pl), some (.own (.lst acc)), some (.val (.int n)), some (.val (rowD r)), none, none]) (Γ2 := [some (.val pl), some (.own (.lst (acc ++ r.map fun m => tI3 (n, m.1, m.2)))), none, none, none, none]) (S2 := S) (by simp [t1_moves_of]) (by simp [b1_moves_of, rowD, lc, h1, h2])]
    rw [e, e1]
    simp [mvsA]
theorem moves_of (L : Int) (ow : List Int) (rows : List (List Mv)) (S : Store) (h : (mvs rows).length ≤ 16777216) : F_moves_of [plD L ow rows] S = .ok (.lst ((mvs rows).map tI3)) S := by
  have e := moves_loop (plD L ow rows) S rows 0 [] (by simpa [mvs] using h)
  simp only [plD] at e ⊢
  simp [F_moves_of, fnOf, g_moves_of, enumD_eq, e, mvs]
theorem law_moves_eq : F__law_moves = F_moves_of := rfl
theorem law_moves (L : Int) (ow : List Int) (rows : List (List Mv)) (S : Store) (h : (mvs rows).length ≤ 16777216) : F__law_moves [plD L ow rows] S = .ok (.lst ((mvs rows).map tI3)) S := by
  rw [law_moves_eq]; exact moves_of L ow rows S h
end K75
set_option Elab.async false
set_option linter.all false
set_option maxRecDepth 100000
set_option maxHeartbeats 4000000
namespace K75
open PySem L2 DL
/-! ### slices at plain places -/
theorem cutD_from {ds : List D} (a : Nat) : cutD ds (some (a : Int)) none = ds.drop a := by
  unfold cutD
  rw [HT.sIx_nat, HT.sIx_none]
  by_cases h : a ≤ ds.length
  · rw [Nat.min_eq_left h, List.take_of_length_le (by simp)]
  · rw [Nat.min_eq_right (by omega), List.drop_of_length_le (Nat.le_refl _), List.drop_of_length_le (by omega)]
    simp
theorem cutD_to {ds : List D} (b : Nat) : cutD ds none (some (b : Int)) = ds.take b := by
  unfold cutD
  rw [HT.sIx_nat, HT.sIx_none, List.drop_zero, Nat.sub_zero]
  by_cases h : b ≤ ds.length
  · rw [Nat.min_eq_left h]
  · rw [Nat.min_eq_right (by omega), List.take_length, List.take_of_length_le (by omega)]
theorem cutD_mid {ds : List D} (a b : Nat) : cutD ds (some (a : Int)) (some (b : Int)) = (ds.drop a).take (b - a) := by
  unfold cutD
  rw [HT.sIx_nat, HT.sIx_nat]
  by_cases ha : a ≤ ds.length
  · rw [Nat.min_eq_left ha]
    by_cases hb : b ≤ ds.length
    · rw [Nat.min_eq_left hb]
    · rw [Nat.min_eq_right (show ds.length ≤ b by omega), List.take_of_length_le (i := ds.length - a) (by rw [List.length_drop]; omega), List.take_of_length_le (i := b - a) (by rw [List.length_drop]; omega)]
  · rw [Nat.min_eq_right (show ds.length ≤ a by omega), List.drop_length, List.drop_of_length_le (show ds.length ≤ a by omega)]
    simp
@[simp] theorem cutD_1 {ds : List D} : cutD ds (some 1) none = ds.tail := by
  rw [← List.drop_one]; exact cutD_from 1
theorem zips_map {α β : Type} (f : α → D) (g : β → D) (l : List α) (m : List β) : zips (l.map f) (m.map g) = (l.zip m).map fun p => .tup [f p.1, g p.2] := by
  unfold zips
  rw [List.zipWith_map, List.zip, List.map_zipWith]
structure PlOk (L : Int) (ow : List Int) (rows : List (List Mv)) : Prop where
  l1 : 1 ≤ L
  l4 : L ≤ 4
  len : ow.length = rows.length
  n1 : 1 ≤ rows.length
  n24 : rows.length ≤ 24
  own : ∀ o ∈ ow, 0 ≤ o ∧ o < 2
  row : ∀ r ∈ rows, 1 ≤ r.length ∧ r.length ≤ 24
  mv : ∀ r ∈ rows, ∀ m ∈ r, 0 ≤ m.1 ∧ m.1 < L ∧ 0 ≤ m.2 ∧ m.2 < rows.length
  inc : ∀ r ∈ rows, ∀ p ∈ r.zip r.tail, HT.lexLt [p.1.1, p.1.2] [p.2.1, p.2.2] = true
  tot : (rows.map List.length).sum ≤ 200
theorem is_move_of {L n : Int} {m : Mv} (S : Store) (h1 : 0 ≤ m.1) (h2 : m.1 < L) (h3 : 0 ≤ m.2) (h4 : m.2 < n) : F_is_move_of [.int L, .int n, tI2 m] S = .ok (.bl true) S := by
  simp [F_is_move_of, fnOf, g_is_move_of, tI2, Kd.isa, is_count_int, h1, h2, h3, h4]
theorem are_place_moves {L n : Int} {r : List Mv} (S : Store) (h1 : 1 ≤ r.length) (h2 : r.length ≤ 24) (hm : ∀ m ∈ r, 0 ≤ m.1 ∧ m.1 < L ∧ 0 ≤ m.2 ∧ m.2 < n) (hi : ∀ p ∈ r.zip r.tail, HT.lexLt [p.1.1, p.1.2] [p.2.1, p.2.2] = true) :
    F_are_place_moves [.int L, .int n, rowD r] S = .ok (.bl true) S := by
  have l1 : ∀ Γ5 Γ4 : Option Sl, lcL lt1_are_place_moves bYes lf1_are_place_moves [some (.val (.int L)), some (.val (.int n)), some (.val (.tup (r.map tI2))), none, Γ4, Γ5] (r.map tI2) S = .ok (r.map fun _ => .bl true) S := fun _ _ =>
    lcL_all tI2 (fun _ => .bl true) r fun m hm' => by
      obtain ⟨a, b, c, d⟩ := hm m hm'
      simp [lt1_are_place_moves, lf1_are_place_moves, is_move_of S a b c d]
  have l2 : ∀ Γ3 : Option Sl, lcL lt2_are_place_moves bYes lf2_are_place_moves [some (.val (.int L)), some (.val (.int n)), some (.val (.tup (r.map tI2))), Γ3, none, none] (zips (r.map tI2) (r.map tI2).tail) S = .ok ((r.zip r.tail).map fun _ => .bl true) S := fun _ => by
    rw [← List.map_tail, zips_map]
    refine lcL_all (fun p : Mv × Mv => .tup [tI2 p.1, tI2 p.2]) (fun _ => .bl true) _ fun p hp => ?_
    have := hi p hp
    simp [lt2_are_place_moves, lf2_are_place_moves, tI2, oLt, intsOf, this]
  have z1 : (1 : Int) ≤ (r.length : Int) := by omega
  have z2 : (r.length : Int) ≤ 24 := by omega
  have z3 : r.length ≤ 16777216 := by omega
  have z4 : (zips (r.map tI2) (r.map tI2).tail).length ≤ 16777216 := by rw [zips_length]; simp; omega
  have b1 := blsOf_map (fun _ : Mv => true) r
  have b2 := blsOf_map (fun _ : Mv × Mv => true) (r.zip r.tail)
  simp [F_are_place_moves, fnOf, g_are_place_moves, rowD, Kd.isa, z1, z2, z3, z4, l1, l2, b1, b2]
end K75
set_option Elab.async false
set_option linter.all false
set_option maxRecDepth 100000
set_option maxHeartbeats 4000000
namespace K75
open PySem L2 DL
theorem are_owners_of {ow : List Int} (S : Store) (h1 : 1 ≤ ow.length) (h2 : ow.length ≤ 24) (h : ∀ o ∈ ow, 0 ≤ o ∧ o < 2) : F_are_owners_of [.tup (ow.map .int)] S = .ok (.bl true) S := by
  have l1 : ∀ Γ, lcL lt1_are_owners_of bYes lf1_are_owners_of [some (.val (.tup (ow.map .int))), Γ] (ow.map .int) S = .ok (ow.map fun _ => .bl true) S := fun _ =>
    lcL_all .int (fun _ => .bl true) ow fun o ho => by
      obtain ⟨a, b⟩ := h o ho
      simp [lt1_are_owners_of, lf1_are_owners_of, is_count_int, a, b]
  have z1 : (1 : Int) ≤ (ow.length : Int) := by omega
  have z2 : (ow.length : Int) ≤ 24 := by omega
  have z3 : ow.length ≤ 16777216 := by omega
  have b1 := blsOf_map (fun _ : Int => true) ow
  simp [F_are_owners_of, fnOf, g_are_owners_of, Kd.isa, z1, z2, z3, l1, b1]
theorem is_plant_of {L : Int} {ow : List Int} {rows : List (List Mv)} (S : Store) (P : PlOk L ow rows) : F_is_plant_of [.int L, plD L ow rows] S = .ok (.bl true) S := by
  have hn : (ow.length : Int) = (rows.length : Int) := by rw [P.len]
  have l1 : ∀ Γ2 Γ3 : Option Sl, lcL lt1_is_plant_of bYes lf1_is_plant_of [some (.val (.int L)), some (.val (plD L ow rows)), Γ2, Γ3, some (.val (.tup (ow.map .int))), some (.val (.tup (rows.map rowD))), none] (rows.map rowD) S = .ok (rows.map fun _ => .bl true) S := fun _ _ =>
    lcL_all rowD (fun _ => .bl true) rows fun r hr => by
      have a := (P.row r hr).1
      have b := (P.row r hr).2
      have e := are_place_moves (n := rows.length) S a b (P.mv r hr) (P.inc r hr)
      simp [lt1_is_plant_of, lf1_is_plant_of, hn, e]
  have l2 : ∀ Γ0 Γ1 Γ2 Γ3 Γ4 Γ5 : Option Sl, lcL lt2_is_plant_of bYes lf2_is_plant_of [Γ0, Γ1, Γ2, Γ3, Γ4, Γ5, none] (rows.map rowD) S = .ok (rows.map fun r => .int (r.length : Int)) S := fun _ _ _ _ _ _ =>
    lcL_all rowD (fun r => .int (r.length : Int)) rows fun r hr => by
      simp [lt2_is_plant_of, lf2_is_plant_of, rowD]
  have e1 := are_owners_of (ow := ow) S (by rw [P.len]; exact P.n1) (by rw [P.len]; exact P.n24) P.own
  have z0 : 0 ≤ L := by have := P.l1; omega
  have z3 : rows.length ≤ 16777216 := by have := P.n24; omega
  have b1 := blsOf_map (fun _ : List Mv => true) rows
  have b2 := intsOf_mapI (fun r : List Mv => (r.length : Int)) rows
  have z5 : (rows.map fun r => (r.length : Int)).sum ≤ 200 := by
    have e : ∀ l : List (List Mv), (l.map fun r => (r.length : Int)).sum = ((l.map List.length).sum : Nat) := fun l => by
      induction l with
      | nil => rfl
      | cons a l ih => simp [ih]
    rw [e]
    have := P.tot
    omega
  simp only [plD] at l1 ⊢
  simp [F_is_plant_of, fnOf, g_is_plant_of, plD, Kd.isa, is_count_int, z0, e1, P.len, l1, l2, z3, b1, b2, z5]
theorem is_any_plant {L : Int} {ow : List Int} {rows : List (List Mv)} (S : Store) (P : PlOk L ow rows) : F_is_any_plant [plD L ow rows] S = .ok (.bl true) S := by
  have e := is_plant_of S P
  have z0 : 0 ≤ L := by have := P.l1; omega
  simp only [plD] at e ⊢
  simp [F_is_any_plant, fnOf, g_is_any_plant, Kd.isa, is_count_int, z0, e, P.l1, P.l4]
theorem want_plant {L : Int} {ow : List Int} {rows : List (List Mv)} (S : Store) (P : PlOk L ow rows) : F_want_plant [plD L ow rows] S = .ok (plD L ow rows) S := by
  have e := is_any_plant S P
  simp [F_want_plant, fnOf, g_want_plant, e]
/-! ### numbers_of -/
theorem rng_rg (a : Int) (n : Nat) : rngD a n = ((List.range n).map fun (i : Nat) => a + (i : Int)).map .int := by
  rw [rngD_eq, List.map_map]; rfl
def lstI (l : List Int) : D := .lst (l.map .int)
end K75
set_option Elab.async false
set_option linter.all false
set_option maxRecDepth 100000
set_option maxHeartbeats 4000000
namespace K75
open PySem L2 DL
/-! ### machines -/
structure MOk (ow : List Int) (rows : List (List Mv)) (side : Int) (most : Nat) (tk : List (List (Option Int))) (nx : List (List Int)) : Prop where
  n1 : 1 ≤ tk.length
  nm : tk.length ≤ most
  len : nx.length = tk.length
  tl : ∀ t ∈ tk, t.length = ow.length
  tv : ∀ t ∈ tk, ∀ (i : Nat) (o : Int) (v : Option Int) (r : List Mv), ow[i]? = some o → t[i]? = some v → rows[i]? = some r → (o ≠ side → v = none) ∧ (o = side → ∃ k, v = some k ∧ 0 ≤ k ∧ k < r.length)
  nl : ∀ n ∈ nx, n.length = (mvs rows).length
  nv : ∀ n ∈ nx, ∀ k ∈ n, 0 ≤ k ∧ k < tk.length
theorem get_atI {α : Type} {l : List α} {i : Nat} {x : α} (h : l[i]? = some x) : L2.atI l (i : Int) = some x := by
  have hl := (List.getElem?_eq_some_iff.mp h).1
  rw [atI_nat hl]
  rw [List.getElem?_eq_getElem hl] at h
  exact h
theorem atI_map {α β : Type} {f : α → β} {l : List α} {i : Nat} {x : α} (h : l[i]? = some x) : L2.atI (l.map f) (i : Int) = some (f x) := get_atI (by rw [List.getElem?_map, h]; rfl)
theorem is_taken {L : Int} {ow : List Int} {rows : List (List Mv)} {side : Int} {i : Nat} {o : Int} {r : List Mv} {v : Option Int} (S : Store) (h1 : ow[i]? = some o) (h2 : rows[i]? = some r) (hv : (o ≠ side → v = none) ∧ (o = side → ∃ k, v = some k ∧ 0 ≤ k ∧ k < r.length)) :
    F_is_taken [plD L ow rows, .int side, .int i, opD v] S = .ok (.bl true) S := by
  have a1 := atI_map (f := D.int) h1
  have a2 := atI_map (f := rowD) h2
  by_cases ho : o = side
  · obtain ⟨k, rfl, k0, k1⟩ := hv.2 ho
    simp [F_is_taken, fnOf, g_is_taken, plD, a1, a2, ho, opD, is_count_int, k0, k1, rowD]
  · obtain rfl := hv.1 ho
    simp [F_is_taken, fnOf, g_is_taken, plD, a1, a2, ho, opD]
theorem enumF_map {α : Type} (f : α → D) (l : List α) : ∀ n, enumF n (l.map f) = (l.zipIdx n).map fun p => .tup [.int (p.2 : Int), f p.1] := by
  induction l with
  | nil => intro n; rfl
  | cons a l ih => intro n; simp [enumF, ih]
theorem zipIdx_mem {α : Type} {l : List α} {p : α × Nat} (h : p ∈ l.zipIdx) : l[p.2]? = some p.1 := by
  obtain ⟨x, i⟩ := p
  have := List.mem_zipIdx_iff_getElem?.mp h
  simpa using this
theorem are_taken {L : Int} {ow : List Int} {rows : List (List Mv)} {side : Int} {t : List (Option Int)} (S : Store) (hl : ow.length = rows.length) (hn : rows.length ≤ 24) (ht : t.length = ow.length)
    (tv : ∀ (i : Nat) (o : Int) (v : Option Int) (r : List Mv), ow[i]? = some o → t[i]? = some v → rows[i]? = some r → (o ≠ side → v = none) ∧ (o = side → ∃ k, v = some k ∧ 0 ≤ k ∧ k < r.length)) :
    F_are_taken [plD L ow rows, .int side, tkD t] S = .ok (.bl true) S := by
  have l1 : lcL lt1_are_taken bYes lf1_are_taken [some (.val (plD L ow rows)), some (.val (.int side)), some (.val (.tup (t.map opD))), none, none] ((t.zipIdx).map fun p => .tup [.int (p.2 : Int), opD p.1]) S = .ok ((t.zipIdx).map fun _ => .bl true) S :=
    lcL_all (fun p : Option Int × Nat => .tup [.int (p.2 : Int), opD p.1]) (fun _ => .bl true) t.zipIdx fun p hp => by
      have h1 := zipIdx_mem hp
      have hi := (List.getElem?_eq_some_iff.mp h1).1
      have h2 : ow[p.2]? = some ow[p.2] := List.getElem?_eq_getElem (by omega)
      have h3 : rows[p.2]? = some rows[p.2] := List.getElem?_eq_getElem (by omega)
      have e := is_taken (L := L) S h2 h3 (tv p.2 _ _ _ h2 h1 h3)
      simp [lt1_are_taken, lf1_are_taken, e]
  have b1 := blsOf_map (fun _ : Option Int × Nat => true) t.zipIdx
  have z1 : t.length ≤ 16777216 := by omega
  have z2 : ow.length ≤ 16777216 := by omega
  simp only [plD] at l1 ⊢
  simp [F_are_taken, fnOf, g_are_taken, tkD, Kd.isa, enumD_eq, enumF_map, l1, b1, z2, ht]
theorem are_next {m : Nat} {n : List Int} {k : Int} (S : Store) (hn : n.length = m) (hm : m ≤ 1000000) (hv : ∀ x ∈ n, 0 ≤ x ∧ x < k) : F_are_next [.int m, .int k, nxD n] S = .ok (.bl true) S := by
  have l1 : lcL lt1_are_next bYes lf1_are_next [some (.val (.int m)), some (.val (.int k)), some (.val (.tup (n.map .int))), none] (n.map .int) S = .ok (n.map fun _ => .bl true) S :=
    lcL_all .int (fun _ => .bl true) n fun x hx => by
      obtain ⟨a, b⟩ := hv x hx
      simp [lt1_are_next, lf1_are_next, is_count_int, a, b]
  have b1 := blsOf_map (fun _ : Int => true) n
  have z1 : n.length ≤ 16777216 := by omega
  subst hn
  simp [F_are_next, fnOf, g_are_next, nxD, Kd.isa, l1, b1, z1]
theorem rows_sum (rows : List (List Mv)) : (rows.map fun r => (r.length : Int)).sum = ((mvs rows).length : Int) := by
  have e : ∀ l : List (List Mv), (l.map fun r => (r.length : Int)).sum = ((l.map List.length).sum : Nat) := fun l => by
    induction l with
    | nil => rfl
    | cons a l ih => simp [ih]
  rw [e, mvs, mvsA_length]
theorem mvs_le {L : Int} {ow : List Int} {rows : List (List Mv)} (P : PlOk L ow rows) : (mvs rows).length ≤ 200 := by
  rw [mvs, mvsA_length]
  exact P.tot
theorem is_machine_of {L : Int} {ow : List Int} {rows : List (List Mv)} {w : PySem.Str} {side : Int} {most : Nat} {tk : List (List (Option Int))} {nx : List (List Int)} (S : Store) (P : PlOk L ow rows) (M : MOk ow rows side most tk nx) (hm : most ≤ 1000) :
    F_is_machine_of [plD L ow rows, .str w, .int side, .int most, mcD w tk nx] S = .ok (.bl true) S := by
  have l1 : ∀ Γ1 Γ3 Γ4 Γ5 Γ6 Γ7 Γ8 : Option Sl, lcL lt1_is_machine_of bYes lf1_is_machine_of [some (.val (plD L ow rows)), Γ1, some (.val (.int side)), Γ3, Γ4, Γ5, Γ6, Γ7, Γ8, none] (tk.map tkD) S = .ok (tk.map fun _ => .bl true) S := fun _ _ _ _ _ _ _ =>
    lcL_all tkD (fun _ => .bl true) tk fun t ht => by
      have e := are_taken (L := L) S P.len P.n24 (M.tl t ht) (M.tv t ht)
      simp [lt1_is_machine_of, lf1_is_machine_of, e]
  have l2 : ∀ Γ0 Γ1 Γ2 Γ3 Γ4 Γ5 Γ6 Γ7 Γ9 : Option Sl, lcL lt2_is_machine_of bYes lf2_is_machine_of [Γ0, Γ1, Γ2, Γ3, Γ4, Γ5, Γ6, Γ7, none, Γ9] (rows.map rowD) S = .ok (rows.map fun r => .int (r.length : Int)) S := fun _ _ _ _ _ _ _ _ _ =>
    lcL_all rowD (fun r => .int (r.length : Int)) rows fun r hr => by
      simp [lt2_is_machine_of, lf2_is_machine_of, rowD]
  have hmv := mvs_le P
  have l3 : ∀ Γ0 Γ1 Γ2 Γ3 Γ4 Γ6 Γ8 : Option Sl, lcL lt3_is_machine_of bYes lf3_is_machine_of [Γ0, Γ1, Γ2, Γ3, Γ4, some (.val (.tup (tk.map tkD))), Γ6, some (.val (.int ((mvs rows).length : Int))), Γ8, none] (nx.map nxD) S = .ok (nx.map fun _ => .bl true) S := fun _ _ _ _ _ _ _ =>
    lcL_all nxD (fun _ => .bl true) nx fun n hn => by
      have e := are_next (k := tk.length) S (M.nl n hn) (by omega) (M.nv n hn)
      simp [lt3_is_machine_of, lf3_is_machine_of, e]
  have b1 := blsOf_map (fun _ : List (Option Int) => true) tk
  have b2 := intsOf_mapI (fun r : List Mv => (r.length : Int)) rows
  have b3 := blsOf_map (fun _ : List Int => true) nx
  have z1 : (1 : Int) ≤ (tk.length : Int) := by have := M.n1; omega
  have z2 : (tk.length : Int) ≤ (most : Int) := by have := M.nm; omega
  have z3 : tk.length ≤ 16777216 := by have := M.nm; omega
  have z4 : rows.length ≤ 16777216 := by have := P.n24; omega
  have z5 : nx.length = tk.length := M.len
  have z6 := rows_sum rows
  have e0 : (mcD w tk nx) = .tup [.str w, .tup (tk.map tkD), .tup (nx.map nxD)] := rfl
  have p0 : plD L ow rows = .tup [.str "plant", .int L, .tup (ow.map .int), .tup (rows.map rowD)] := rfl
  rw [p0] at l1
  rw [e0, p0]
  simp [F_is_machine_of, fnOf, g_is_machine_of, Kd.isa, z1, z2, z3, z4, z5, l1, l2, l3, b1, b2, b3, z6]
theorem is_hand_of {L : Int} {ow : List Int} {rows : List (List Mv)} {tk : List (List (Option Int))} {nx : List (List Int)} (S : Store) (P : PlOk L ow rows) (M : MOk ow rows 0 60 tk nx) : F_is_hand_of [plD L ow rows, mcD "hand" tk nx] S = .ok (.bl true) S := by
  have e := is_machine_of (w := "hand") S P M (by omega)
  have e : F_is_machine_of [plD L ow rows, .str "hand", .int 0, .int 60, mcD "hand" tk nx] S = .ok (.bl true) S := e
  simp [F_is_hand_of, fnOf, g_is_hand_of, e]
theorem want_hand {L : Int} {ow : List Int} {rows : List (List Mv)} {tk : List (List (Option Int))} {nx : List (List Int)} (S : Store) (P : PlOk L ow rows) (M : MOk ow rows 0 60 tk nx) : F_want_hand [plD L ow rows, mcD "hand" tk nx] S = .ok (mcD "hand" tk nx) S := by
  have e := is_hand_of S P M
  simp [F_want_hand, fnOf, g_want_hand, e]
end K75
set_option Elab.async false
set_option linter.all false
set_option maxRecDepth 100000
set_option maxHeartbeats 4000000
namespace K75
open PySem L2 DL SX
/-! ### texts -/
/-- a text by its signs -/
abbrev tx (l : List Nat) : D := .str (S l)
theorem l_sp : (" " : PySem.Str) = S [32] := by decide +kernel
theorem l_nl : ("\n" : PySem.Str) = S [10] := by decide +kernel
theorem l_no : ("" : PySem.Str) = S [] := by decide +kernel
theorem l_0 : ("0" : PySem.Str) = S [48] := by decide +kernel
theorem l_star : ("*" : PySem.Str) = S [42] := by decide +kernel
theorem l_fig : ("0123456789" : PySem.Str) = S [48, 49, 50, 51, 52, 53, 54, 55, 56, 57] := by decide +kernel
def wMem : List Nat := [109, 101, 109, 111, 114, 105, 101, 115]
def wIn : List Nat := [105, 110]
def wAt : List Nat := [97, 116]
def wAfter : List Nat := [97, 102, 116, 101, 114]
def wTake : List Nat := [116, 97, 107, 101]
def wGo : List Nat := [103, 111]
theorem l_mem : ("memories" : PySem.Str) = S wMem := by decide +kernel
theorem l_memsp : ("memories " : PySem.Str) = S (wMem ++ [32]) := by decide +kernel
theorem l_in : ("in" : PySem.Str) = S wIn := by decide +kernel
theorem l_insp : ("in " : PySem.Str) = S (wIn ++ [32]) := by decide +kernel
theorem l_at : ("at" : PySem.Str) = S wAt := by decide +kernel
theorem l_after : ("after" : PySem.Str) = S wAfter := by decide +kernel
theorem l_take : ("take" : PySem.Str) = S wTake := by decide +kernel
theorem l_go : ("go" : PySem.Str) = S wGo := by decide +kernel
theorem l_atsp : (" at " : PySem.Str) = S ([32] ++ wAt ++ [32]) := by decide +kernel
theorem l_takesp : (" take " : PySem.Str) = S ([32] ++ wTake ++ [32]) := by decide +kernel
theorem l_aftersp : (" after " : PySem.Str) = S ([32] ++ wAfter ++ [32]) := by decide +kernel
theorem l_gosp : (" go " : PySem.Str) = S ([32] ++ wGo ++ [32]) := by decide +kernel
theorem S_eq_iff {a b : List Nat} : S a = S b ↔ a = b := ⟨S_inj, fun h => by rw [h]⟩
theorem nS (n : Nat) : (toString (n : Int) : PySem.Str) = S (TL.numL n) := num_S n
/-! split and join -/
def spl (c : Nat) (l : List Nat) : List (List Nat) := TL.spl [c] 0 [] l
def jn (c : Nat) (ls : List (List Nat)) : List Nat := TL.joinL [c] ls
theorem spl_jn {c : Nat} {ls : List (List Nat)} (h : ls ≠ []) (hf : ∀ l ∈ ls, c ∉ l) : spl c (jn c ls) = ls := TL.spl_join h hf
theorem split_sp (l : List Nat) : Txt.split (S l) (S [32]) = (spl 32 l).map S := split_S (by simp) (by decide)
theorem split_nl (l : List Nat) : Txt.split (S l) (S [10]) = (spl 10 l).map S := split_S (by simp) (by decide)
theorem join_no (ys : List (List Nat)) : Txt.join (S []) (ys.map S) = S (TL.joinL [] ys) := join_S [] ys
theorem joinL_nil : ∀ ys : List (List Nat), TL.joinL [] ys = ys.flatten
  | [] => rfl
  | [a] => by simp [TL.joinL]
  | a :: b :: r => by
    have := joinL_nil (b :: r)
    simp [TL.joinL, this]
/-- all lines with their line feeds -/
theorem text_jn : ∀ ls : List (List Nat), (ls.map (· ++ [10])).flatten = jn 10 (ls ++ [[]])
  | [] => rfl
  | a :: r => by
    have := text_jn r
    cases r with
    | nil => simp [jn, TL.joinL]
    | cons b r =>
      simp only [List.map_cons, List.flatten_cons, jn, List.cons_append] at this ⊢
      rw [this]
      simp [TL.joinL]
theorem jn_last {ls : List (List Nat)} (h : ls ≠ []) : jn 10 (ls ++ [[]]) = jn 10 ls ++ [10] := by
  induction ls with
  | nil => exact absurd rfl h
  | cons a r ih =>
    cases r with
    | nil => simp [jn, TL.joinL]
    | cons b r =>
      have := ih (by simp)
      simp only [jn, List.cons_append] at this ⊢
      simp only [TL.joinL]
      rw [this]
      simp
theorem jn_length (c : Nat) : ∀ ls : List (List Nat), (jn c ls).length ≤ (ls.map List.length).sum + ls.length
  | [] => by simp [jn, TL.joinL]
  | [a] => by simp [jn, TL.joinL]
  | a :: b :: r => by
    have := jn_length c (b :: r)
    simp only [jn] at this ⊢
    simp only [TL.joinL, List.length_append, List.map_cons, List.sum_cons, List.length_cons] at this ⊢
    simp
    omega
theorem spl_miss {c x : Nat} {l acc : List Nat} (h : x ≠ c) : TL.spl [c] 0 acc (x :: l) = TL.spl [c] 0 (acc ++ [x]) l := TL.spl_miss (by simp [TL.pre]; exact h)
theorem spl_hit {c : Nat} {l acc : List Nat} : TL.spl [c] 0 acc (c :: l) = acc :: TL.spl [c] 0 [] l := by
  rw [TL.spl_hit (by simp [TL.pre])]; rfl
theorem spl_len (c : Nat) : ∀ (l acc : List Nat), (TL.spl [c] 0 acc l).length ≤ l.length + 1
  | [], acc => by rw [TL.spl_nil]; simp
  | x :: l, acc => by
    by_cases h : x = c
    · subst h; rw [spl_hit]; have := spl_len x l []; simp; omega
    · rw [spl_miss h]; have := spl_len c l (acc ++ [x]); simp; omega
theorem spl_parts (c : Nat) : ∀ (l acc w : List Nat), w ∈ TL.spl [c] 0 acc l → w.length ≤ acc.length + l.length
  | [], acc, w, h => by rw [TL.spl_nil] at h; simp at h; subst h; simp
  | x :: l, acc, w, h => by
    by_cases e : x = c
    · subst e
      rw [spl_hit] at h
      rcases List.mem_cons.mp h with rfl | h
      · simp
      · have := spl_parts x l [] w h; simp at this ⊢; omega
    · rw [spl_miss e] at h
      have := spl_parts c l (acc ++ [x]) w h
      simp at this ⊢; omega
theorem spl_ne (c : Nat) : ∀ (l acc : List Nat), TL.spl [c] 0 acc l ≠ []
  | [], acc => by rw [TL.spl_nil]; simp
  | x :: l, acc => by
    by_cases e : x = c
    · subst e; rw [spl_hit]; simp
    · rw [spl_miss e]; exact spl_ne c l _
/-- a sep behind a word without it -/
theorem spl_app {c : Nat} {a b : List Nat} (h : c ∉ a) : spl c (a ++ c :: b) = a :: spl c b := by
  have := TL.spl_part1 (s := c) (S := []) (p := a) (rest := b) (acc := []) h
  simpa [spl] using this
theorem spl_one {c : Nat} {a : List Nat} (h : c ∉ a) : spl c a = [a] := by
  have := TL.spl_last1 (s := c) (S := []) (p := a) (acc := []) h
  simpa [spl] using this
theorem eSplit_S {f g : Ev D} {Γ : Gm} {T T1 T2 : Store} {l : List Nat} {c : Nat} (hf : f Γ T = .ok (tx l) T1) (hg : g Γ T1 = .ok (tx [c]) T2) (hl : l.length ≤ 1000000) (hc : c < 256) :
    eSplit f g Γ T = .ok (.lst ((spl c l).map tx)) T2 := by
  have e : Txt.split (S l) (S [c]) = (spl c l).map S := split_S (by simp) (by simp [hc])
  have z := spl_len c l []
  rw [c_eSplit, hf]
  simp only [RE.bind_ok, hg, e, S_len, List.length_map, sz_eq]
  have h1 : (([c] : List Nat).length == 0) = false := by simp
  have h2 : (spl c l).length ≤ 16777216 := by show (TL.spl [c] 0 [] l).length ≤ _; omega
  rw [if_pos ⟨h1, by omega, h2⟩, List.map_map]
  rfl
end K75
set_option Elab.async false
set_option linter.all false
set_option maxRecDepth 100000
set_option maxHeartbeats 4000000
namespace K75
open PySem L2 DL SX
theorem o_lenS' (T : Store) (z : PySem.Str) (h : z.length ≤ 16777216) : bLen T [.str z] = some (.int (z.length : Nat)) := if_pos (by rw [sz_eq]; exact h)
theorem o_ixS (T : Store) (c : Nat) (r : List Nat) (h : (c :: r).length ≤ 16777216) : oIx T (tx (c :: r)) (.int 0) = some (tx [c]) := by
  have : (S (c :: r)).length ≤ sizeLine := by rw [S_len, sz_eq]; exact h
  simp only [oIx, if_pos this]
  show ((L2.atI (c :: r) 0).map fun c => D.str ⟨#[c]⟩) = _
  rw [atI_0]
  rfl
/-! ### numbers told by a word -/
def digs (w : List Nat) : Bool := w.all fun c => decide (48 ≤ c) && decide (c ≤ 57)
def opN : Option Nat → D
  | none => .non
  | some n => .int n
def NI (w : List Nat) (m : Int) : Option Nat :=
  if w = [] ∨ digs w = false ∨ (1 < w.length ∧ w.head? = some 48) then none
  else if w.length < 9 ∧ (NumText.digitsVal w : Int) < m then some (NumText.digitsVal w) else none
theorem mem_fig (c : Nat) : decide (c ∈ [48, 49, 50, 51, 52, 53, 54, 55, 56, 57]) = (decide (48 ≤ c) && decide (c ≤ 57)) := by
  rw [Bool.eq_iff_iff, Bool.and_eq_true, decide_eq_true_iff, decide_eq_true_iff, decide_eq_true_iff]
  simp only [List.mem_cons, List.not_mem_nil, or_false]
  omega
theorem fig_lc (Γ : Gm) (hΓ : Γ.length = 3) (T : Store) (w : List Nat) : lcL lt1_number_in bYes lf1_number_in Γ (w.map fun c => D.str ⟨#[c]⟩) T = .ok (w.map fun c => .bl (decide (48 ≤ c) && decide (c ≤ 57))) T :=
  lcL_all (fun c => D.str ⟨#[c]⟩) (fun c => .bl (decide (48 ≤ c) && decide (c ≤ 57))) w fun c _ => by
    obtain ⟨a, b, d, rfl⟩ : ∃ a b d, Γ = [a, b, d] := by
      match Γ, hΓ with
      | [a, b, d], _ => exact ⟨a, b, d, rfl⟩
    simp [lt1_number_in, lf1_number_in, l_fig, oInS, ← mem_fig]
theorem number_core (w : List Nat) (m n : Int) (v : Nat) (c : Nat) (T : Store) (hs : S w ≠ S []) (e : ((w.map fun c => decide (48 ≤ c) && decide (c ≤ 57)).all id) = true)
    (h1 : w.length ≤ 16777216) (hl : bLen T [tx w] = some (.int n)) (ix : oIx T (tx w) (.int 0) = some (tx [c])) (hi : n < 9 → bIntS T [tx w] = some (.int v)) :
    F_number_in [tx w, .int m] T = .ok (opN (if 1 < n ∧ c = 48 then none else if n < 9 ∧ (v : Int) < m then some v else none)) T := by
  have h48' : ((S [c] : PySem.Str) = S [48]) ↔ c = 48 := by rw [S_eq_iff]; simp
  by_cases z1 : 1 < n <;> by_cases z2 : c = 48 <;> by_cases z3 : n < 9 <;> by_cases z4 : (v : Int) < m <;>
    simp [F_number_in, fnOf, g_number_in, l_no, l_0, hs, opN, fig_lc, blsOf_map, e, h1, hl, ix, z1, z2, z3, z4, hi, h48', -DL.o_lenS, -List.all_map, -List.all_eq_false, -List.all_eq_true, -List.map_cons, -o_intSS]
theorem number_in (w : List Nat) (m : Int) (T : Store) (hw : w.length ≤ 1000000) : F_number_in [tx w, .int m] T = .ok (opN (NI w m)) T := by
  by_cases h0 : w = []
  · subst h0
    simp [F_number_in, fnOf, g_number_in, l_no, NI, opN]
  · have hs : S w ≠ S [] := fun h => h0 (S_inj h)
    cases hd : digs w with
    | false =>
      have hd' : (w.all fun c => decide (48 ≤ c) && decide (c ≤ 57)) = false := hd
      have e : ((w.map fun c => decide (48 ≤ c) && decide (c ≤ 57)).all id) = false := by rw [List.all_map]; exact hd'
      have h1 : w.length ≤ 16777216 := by omega
      simp [F_number_in, fnOf, g_number_in, l_no, hs, NI, opN, hd, fig_lc, blsOf_map, e, h1, -List.all_map, -List.all_eq_false, -List.all_eq_true]
    | true =>
      have hd' : (w.all fun c => decide (48 ≤ c) && decide (c ≤ 57)) = true := hd
      have e : ((w.map fun c => decide (48 ≤ c) && decide (c ≤ 57)).all id) = true := by rw [List.all_map]; exact hd'
      have h1 : w.length ≤ 16777216 := by omega
      obtain ⟨c, r, rfl⟩ : ∃ c r, w = c :: r := by cases w with | nil => exact absurd rfl h0 | cons c r => exact ⟨c, r, rfl⟩
      have hl : bLen T [tx (c :: r)] = some (.int ((c :: r).length : Nat)) := by rw [o_lenS' _ _ (by rw [S_len]; exact h1), S_len]
      rw [number_core (c :: r) m ((c :: r).length : Nat) (NumText.digitsVal (c :: r)) c T hs e h1 hl (o_ixS T c r h1) fun h => by
        have h9 : (c :: r).length < 9 := by omega
        have := int_S hd' (by simp) (by omega : (c :: r).length ≤ 4300)
        rw [o_intSS, if_pos (by rw [S_len]; omega), this]
        rfl]
      congr 2
      have h2 : (1 < (((c :: r).length : Nat) : Int) ∧ c = 48) ↔ (1 < (c :: r).length ∧ c = 48) := by omega
      have h3 : ((((c :: r).length : Nat) : Int) < 9 ∧ ((NumText.digitsVal (c :: r) : Nat) : Int) < m) ↔ ((c :: r).length < 9 ∧ ((NumText.digitsVal (c :: r) : Nat) : Int) < m) := by omega
      simp only [NI, hd, h2, h3, List.head?_cons, Option.some.injEq, reduceCtorEq, false_or, Bool.true_eq_false]
theorem numL_head : ∀ n : Nat, 0 < n → (TL.numL n).head? ≠ some 48 := fun n => by
  induction n using Nat.strongRecOn with
  | _ n ih =>
    intro h
    by_cases hn : n < 10
    · rw [TL.numL_lt hn]; simp; omega
    · have h1 := ih (n / 10) (by omega) (by omega)
      obtain ⟨x, y, e⟩ := List.exists_cons_of_ne_nil (TL.numL_ne (n / 10))
      rw [TL.numL_step (by omega), e]
      rw [e] at h1
      exact h1
theorem NI_num {n : Nat} {m : Int} (h : n < 100000000) : NI (TL.numL n) m = if (n : Int) < m then some n else none := by
  have h1 := TL.numL_ne n
  have h2 : digs (TL.numL n) = true := by
    rw [digs, List.all_eq_true]
    intro c hc
    have := TL.numL_digits n c hc
    simp only [Bool.and_eq_true, decide_eq_true_iff]
    omega
  have h3 : ¬ (1 < (TL.numL n).length ∧ (TL.numL n).head? = some 48) := by
    by_cases hn : n < 10
    · rw [TL.numL_lt hn]; simp
    · exact fun h => numL_head n (by omega) h.2
  have h4 : (TL.numL n).length < 9 := by have := TL.numL_len (n := n) (k := 8) (by omega) (by omega); omega
  unfold NI
  rw [if_neg (by simp [h1, h2]; exact fun h => fun e => h3 ⟨h, e⟩), TL.numL_val]
  simp [h4]
theorem NI_lt {w : List Nat} {m : Int} {n : Nat} (h : NI w m = some n) : (n : Int) < m := by
  unfold NI at h
  split at h
  · cases h
  · split at h
    next h1 => cases h; exact h1.2
    · cases h
end K75
set_option Elab.async false
set_option linter.all false
set_option maxRecDepth 100000
set_option maxHeartbeats 4000000
namespace K75
open PySem L2 DL SX
/-! ### lines told -/
def prN : Option (Nat × Nat) → D
  | none => .non
  | some (a, b) => .tup [.int a, .int b]
def TI (ow : List Int) (rows : List (List Mv)) (near far : List Nat) : Option (Nat × Nat) :=
  match NI near ow.length with
  | none => none
  | some p => if ow[p]? = some 0 then (NI far ((rows[p]?.getD []).length)).map fun q => (p, q) else none
theorem take_in (L : Int) {ow : List Int} {rows : List (List Mv)} (hl : ow.length = rows.length) (a b : List Nat) (T : Store) (ha : a.length ≤ 1000000) (hb : b.length ≤ 1000000) :
    F_take_in [plD L ow rows, tx a, tx b] T = .ok (prN (TI ow rows a b)) T := by
  unfold TI
  cases e : NI a ow.length with
  | none => simp [F_take_in, fnOf, g_take_in, plD, number_in, ha, e, opN, prN]
  | some p =>
    have hp : p < ow.length := by have := NI_lt e; omega
    have h1 : L2.atI (ow.map D.int) (p : Int) = some (.int ow[p]) := by rw [atI_nat (by simpa using hp)]; simp
    have h2 : L2.atI (rows.map rowD) (p : Int) = some (rowD rows[p]) := by rw [atI_nat (by rw [List.length_map]; omega)]; simp
    have h3 : ow[p]? = some ow[p] := List.getElem?_eq_getElem hp
    have h4 : rows[p]? = some rows[p] := List.getElem?_eq_getElem (by omega)
    simp only [h3, h4]
    simp only [Option.getD_some, Option.some.injEq]
    by_cases h0 : ow[p] = 0
    · rw [if_pos h0]
      cases e2 : NI b rows[p].length with
      | none => simp [F_take_in, fnOf, g_take_in, plD, number_in, ha, hb, e, opN, prN, h1, h2, h0, rowD, e2]
      | some q => simp [F_take_in, fnOf, g_take_in, plD, number_in, ha, hb, e, opN, prN, h1, h2, h0, rowD, e2]
    · rw [if_neg h0]
      simp [F_take_in, fnOf, g_take_in, plD, number_in, ha, hb, e, opN, prN, h1, h2, h0, rowD]
def SI (rows : List (List Mv)) (many : Nat) (near far : List Nat) : Option (Nat × Nat) :=
  match NI near (mvs rows).length, NI far many with
  | some a, some b => some (a, b)
  | _, _ => none
theorem step_in (L : Int) {ow : List Int} {rows : List (List Mv)} (hm : (mvs rows).length ≤ 16777216) (many : Nat) (a b : List Nat) (T : Store) (ha : a.length ≤ 1000000) (hb : b.length ≤ 1000000) :
    F_step_in [plD L ow rows, .int many, tx a, tx b] T = .ok (prN (SI rows many a b)) T := by
  unfold SI
  cases e : NI a (mvs rows).length with
  | none => simp [F_step_in, fnOf, g_step_in, number_in, ha, hb, e, opN, prN, moves_of, hm]
  | some p =>
    cases e2 : NI b many with
    | none => simp [F_step_in, fnOf, g_step_in, number_in, ha, hb, e, e2, opN, prN, moves_of, hm]
    | some q => simp [F_step_in, fnOf, g_step_in, number_in, ha, hb, e, e2, opN, prN, moves_of, hm]
def Good (l : List Nat) : Prop := l.length ≤ 1000000 ∧ ∀ c ∈ l, c < 1000
theorem spl_mem (c : Nat) : ∀ (l acc w : List Nat), w ∈ TL.spl [c] 0 acc l → ∀ x ∈ w, x ∈ acc ∨ x ∈ l
  | [], acc, w, h, x, hx => by rw [TL.spl_nil] at h; simp at h; subst h; exact .inl hx
  | y :: l, acc, w, h, x, hx => by
    by_cases e : y = c
    · subst e
      rw [spl_hit] at h
      rcases List.mem_cons.mp h with rfl | h
      · exact .inl hx
      · have := spl_mem y l [] w h x hx; simp at this ⊢; exact .inr (.inr this)
    · rw [spl_miss e] at h
      have := spl_mem c l (acc ++ [y]) w h x hx
      simp at this ⊢; rcases this with (a | a) | a
      · exact .inl a
      · exact .inr (.inl a)
      · exact .inr (.inr a)
theorem good_spl {c : Nat} {l w : List Nat} (h : Good l) (hw : w ∈ spl c l) : Good w := by
  refine ⟨?_, fun x hx => ?_⟩
  · have := spl_parts c l [] w hw; have := h.1; simp at *; omega
  · rcases spl_mem c l [] w hw x hx with a | a
    · cases a
    · exact h.2 x a
theorem good_str {l : List Nat} (h : Good l) : PyData.strOk (S l) = true := by
  unfold PyData.strOk
  rw [← Array.all_toList, List.all_eq_true]
  intro c hc
  have := h.2 c hc
  exact decide_eq_true (by omega)
theorem inT_words (T : Store) (a b : List Nat) (ga : Good a) (gb : Good b) : oInT true T (.tup [tx a, tx b]) (.tup [.tup [.str "at", .str "take"], .tup [.str "after", .str "go"]]) = some (.bl (!decide ((a = wAt ∧ b = wTake) ∨ (a = wAfter ∧ b = wGo)))) := by
  have h1 : SeqAt.shaped (.tuple [.str (S a), .str (S b)]) = true := by simp [SeqAt.shaped, PyData.canLay0, PyData.canLayAll0, PyData.depth, PyData.depthAll, good_str ga, good_str gb]
  have h2 : SeqAt.shaped (.tuple [.tuple [.str (S wAt), .str (S wTake)], .tuple [.str (S wAfter), .str (S wGo)]]) = true := by simp [SeqAt.shaped, PyData.canLay0, PyData.canLayAll0, PyData.depth, PyData.depthAll]; decide +kernel
  have e1 : pyS T (.tup [tx a, tx b]) = some (.tuple [.str (S a), .str (S b)]) := by simp [pyS, pySL]
  have e2 : pyS T (.tup [.tup [.str (S wAt), .str (S wTake)], .tup [.str (S wAfter), .str (S wGo)]]) = some (.tuple [.tuple [.str (S wAt), .str (S wTake)], .tuple [.str (S wAfter), .str (S wGo)]]) := by simp [pyS, pySL]
  rw [l_at, l_take, l_after, l_go]
  unfold oInT
  rw [e1, e2]
  simp only [h1, h2, Bool.and_self, if_true]
  simp only [List.any_cons, List.any_nil, Bool.or_false, PyData.eqv, PyData.eqvAll, Bool.and_true, S_beq_eq]
  congr 3
  rw [Bool.eq_iff_iff]
  simp only [Bool.or_eq_true, Bool.and_eq_true, decide_eq_true_iff, @eq_comm _ wAt, @eq_comm _ wTake, @eq_comm _ wAfter, @eq_comm _ wGo]
structure Row where
  go : Bool
  mem : Option Nat
  near : Nat
  far : Nat
def LIw (ow : List Int) (rows : List (List Mv)) (many : Nat) : List (List Nat) → Option Row
  | [w0, w1, w2, w3, w4, w5] =>
    if w0 = wIn ∧ ((w2 = wAt ∧ w4 = wTake) ∨ (w2 = wAfter ∧ w4 = wGo)) ∧ (w1 = [42] ∨ NI w1 many ≠ none) then
      (if w2 = wAt then TI ow rows w3 w5 else SI rows many w3 w5).map fun p => ⟨decide (w2 ≠ wAt), if w1 = [42] then none else NI w1 many, p.1, p.2⟩
    else none
  | _ => none
def rowN : Option Row → D
  | none => .non
  | some r => .tup [tx (if r.go then wAfter else wAt), opN r.mem, .int r.near, .int r.far]
theorem atI_g {α : Type} (l : List α) (i : Nat) (x : α) (h : l[i]? = some x) : L2.atI l (i : Int) = some x := get_atI h
@[simp] theorem o_isNT (T : Store) (ds : List D) : oIsN T (.tup ds) .non = some (.bl false) := rfl
theorem six_core (pl : D) (many : Nat) (l : List Nat) (T : Store) (w0 w1 w2 w3 w4 w5 : PySem.Str) (b0 b1 b2 b3 : Bool) (tt ss : Option (Nat × Nat)) (nn : Option Nat)
    (hs : eSplit (eV 2) (eC (.str " ")) [some (.val pl), some (.val (.int many)), some (.val (tx l)), none, none, none] T = .ok (.lst [.str w0, .str w1, .str w2, .str w3, .str w4, .str w5]) T)
    (a3 : L2.atI [D.str w0, .str w1, .str w2, .str w3, .str w4, .str w5] 3 = some (.str w3)) (a4 : L2.atI [D.str w0, .str w1, .str w2, .str w3, .str w4, .str w5] 4 = some (.str w4)) (a5 : L2.atI [D.str w0, .str w1, .str w2, .str w3, .str w4, .str w5] 5 = some (.str w5))
    (q0 : (w0 = "in") = (b0 = true)) (q2 : (w1 = "*") = (b2 = true)) (q3 : (w2 = "at") = (b3 = true))
    (it : oInT true T (.tup [.str w2, .str w4]) (.tup [.tup [.str "at", .str "take"], .tup [.str "after", .str "go"]]) = some (.bl (!b1)))
    (n1 : F_number_in [.str w1, .int many] T = .ok (opN nn) T) (ti : F_take_in [pl, .str w3, .str w5] T = .ok (prN tt) T) (si : F_step_in [pl, .int many, .str w3, .str w5] T = .ok (prN ss) T) :
    F_line_in [pl, .int many, tx l] T = .ok (if b0 = true ∧ b1 = true ∧ (b2 = true ∨ nn ≠ none) then (match (if b3 = true then tt else ss) with | none => .non | some p => .tup [.str w2, opN (if b2 = true then none else nn), .int p.1, .int p.2]) else .non) T := by
  cases b0 with
  | false => simp [F_line_in, fnOf, g_line_in, hs, q0, -c_eSplit]
  | true => cases b1 with
    | false => simp [F_line_in, fnOf, g_line_in, hs, q0, a4, it, -c_eSplit]
    | true => cases b2 with
      | true => cases b3 with
        | true => cases tt <;> simp [F_line_in, fnOf, g_line_in, hs, q0, q2, q3, a3, a4, a5, it, ti, prN, opN, -c_eSplit]
        | false => cases ss <;> simp [F_line_in, fnOf, g_line_in, hs, q0, q2, q3, a3, a4, a5, it, si, prN, opN, -c_eSplit]
      | false => cases nn with
        | none => simp [F_line_in, fnOf, g_line_in, hs, q0, q2, q3, a3, a4, a5, it, n1, prN, opN, -c_eSplit]
        | some n => cases b3 with
          | true => cases tt <;> simp [F_line_in, fnOf, g_line_in, hs, q0, q2, q3, a3, a4, a5, it, n1, ti, prN, opN, -c_eSplit]
          | false => cases ss <;> simp [F_line_in, fnOf, g_line_in, hs, q0, q2, q3, a3, a4, a5, it, n1, si, prN, opN, -c_eSplit]
theorem line_six {L : Int} {ow : List Int} {rows : List (List Mv)} (hl : ow.length = rows.length) (hm : (mvs rows).length ≤ 16777216) (many : Nat) (l : List Nat) (T : Store) (w0 w1 w2 w3 w4 w5 : List Nat) (g1 : Good w1) (g2 : Good w2) (g3 : Good w3) (g4 : Good w4) (g5 : Good w5)
    (hs : eSplit (eV 2) (eC (.str " ")) [some (.val (plD L ow rows)), some (.val (.int many)), some (.val (tx l)), none, none, none] T = .ok (.lst [tx w0, tx w1, tx w2, tx w3, tx w4, tx w5]) T) : F_line_in [plD L ow rows, .int many, tx l] T = .ok (rowN (LIw ow rows many [w0, w1, w2, w3, w4, w5])) T := by
  rw [six_core (plD L ow rows) many l T (S w0) (S w1) (S w2) (S w3) (S w4) (S w5) (decide (w0 = wIn)) (decide ((w2 = wAt ∧ w4 = wTake) ∨ (w2 = wAfter ∧ w4 = wGo))) (decide (w1 = [42])) (decide (w2 = wAt)) (TI ow rows w3 w5) (SI rows many w3 w5) (NI w1 many)
    hs (atI_g _ 3 _ rfl) (atI_g _ 4 _ rfl) (atI_g _ 5 _ rfl) (by rw [l_in, S_eq_iff]; simp) (by rw [l_star, S_eq_iff]; simp) (by rw [l_at, S_eq_iff]; simp) (inT_words T w2 w4 g2 g4) (number_in w1 many T g1.1) (take_in L hl w3 w5 T g3.1 g5.1) (step_in L (ow := ow) hm many w3 w5 T g3.1 g5.1)]
  congr 1
  simp only [decide_eq_true_iff, LIw]
  by_cases h : w0 = wIn ∧ ((w2 = wAt ∧ w4 = wTake) ∨ (w2 = wAfter ∧ w4 = wGo)) ∧ (w1 = [42] ∨ NI w1 many ≠ none)
  · rw [if_pos h, if_pos h]
    have e : S w2 = S (if decide (w2 ≠ wAt) = true then wAfter else wAt) := by
      rcases h.2.1 with k | k
      · rw [k.1]; simp
      · rw [k.1]; rw [if_pos (by decide)]
    rw [e]
    cases (if w2 = wAt then TI ow rows w3 w5 else SI rows many w3 w5) <;> rfl
  · rw [if_neg h, if_neg h]
    rfl
theorem line_core {L : Int} {ow : List Int} {rows : List (List Mv)} (hl : ow.length = rows.length) (hm : (mvs rows).length ≤ 16777216) (many : Nat) (l : List Nat) (T : Store) (ws : List (List Nat)) (hw : ∀ w ∈ ws, Good w)
    (hs : eSplit (eV 2) (eC (.str " ")) [some (.val (plD L ow rows)), some (.val (.int many)), some (.val (tx l)), none, none, none] T = .ok (.lst (ws.map tx)) T) : F_line_in [plD L ow rows, .int many, tx l] T = .ok (rowN (LIw ow rows many ws)) T := by
  by_cases h6 : ws.length = 6
  · obtain ⟨w0, w1, w2, w3, w4, w5, rfl⟩ : ∃ w0 w1 w2 w3 w4 w5, ws = [w0, w1, w2, w3, w4, w5] := by
      match ws, h6 with
      | [w0, w1, w2, w3, w4, w5], _ => exact ⟨_, _, _, _, _, _, rfl⟩
    exact line_six hl hm many l T w0 w1 w2 w3 w4 w5 (hw _ (by simp)) (hw _ (by simp)) (hw _ (by simp)) (hw _ (by simp)) (hw _ (by simp)) hs
  · have e : LIw ow rows many ws = none := by
      unfold LIw
      split
      · simp at h6
      · rfl
    have h6' : ¬ ((ws.length : Nat) : Int) = 6 := by omega
    rw [e]
    simp [F_line_in, fnOf, g_line_in, hs, h6', rowN, -c_eSplit]
theorem line_in {L : Int} {ow : List Int} {rows : List (List Mv)} (hl : ow.length = rows.length) (hm : (mvs rows).length ≤ 16777216) (many : Nat) (l : List Nat) (T : Store) (g : Good l) :
    F_line_in [plD L ow rows, .int many, tx l] T = .ok (rowN (LIw ow rows many (spl 32 l))) T :=
  line_core hl hm many l T (spl 32 l) (fun w hw => good_spl g hw) (eSplit_S (c := 32) (T1 := T) rfl (by rw [l_sp]; rfl) g.1 (by decide))
/-! first lines -/
def MIw : List (List Nat) → Option Nat
  | [w0, w1] => if w0 = wMem then (match NI w1 61 with | some 0 => none | x => x) else none
  | _ => none
@[simp] theorem o_neN (T : Store) (i : Int) : oNe T .non (.int i) = some (.bl true) := by simp [oNe, eqData, pyS, SeqAt.shaped, PyData.canLay0, PyData.depth, PyData.eqv]
theorem mem_core (l : List Nat) (T : Store) (ws : List (List Nat)) (hw : ∀ w ∈ ws, Good w) (hs : eSplit (eV 0) (eC (.str " ")) [some (.val (tx l)), none, none] T = .ok (.lst (ws.map tx)) T) : F_memories_in [tx l] T = .ok (opN (MIw ws)) T := by
  by_cases h2 : ws.length = 2
  · obtain ⟨w0, w1, rfl⟩ : ∃ w0 w1, ws = [w0, w1] := by
      match ws, h2 with
      | [w0, w1], _ => exact ⟨_, _, rfl⟩
    have n1 := number_in w1 61 T (hw _ (by simp)).1
    have e0 : (S w0 = "memories") = (w0 = wMem) := by rw [l_mem, S_eq_iff]
    simp only [MIw]
    generalize NI w1 61 = nn at n1
    by_cases c0 : w0 = wMem
    · rw [if_pos c0]
      have e1 : S w0 = "memories" := by rw [e0]; exact c0
      cases nn with
      | none => simp only [List.map_cons, List.map_nil] at hs; simp [F_memories_in, fnOf, g_memories_in, hs, e1, n1, opN, -c_eSplit]
      | some n => simp only [List.map_cons, List.map_nil] at hs; simp [F_memories_in, fnOf, g_memories_in, hs, e1, n1, opN, -c_eSplit]; cases n <;> simp
    · rw [if_neg c0]
      have e1 : S w0 ≠ "memories" := by rw [Ne, e0]; exact c0
      simp only [List.map_cons, List.map_nil] at hs
      simp [F_memories_in, fnOf, g_memories_in, hs, e1, opN, -c_eSplit]
  · have e : MIw ws = none := by
      unfold MIw
      split
      · simp at h2
      · rfl
    have h2' : ¬ ((ws.length : Nat) : Int) = 2 := by omega
    rw [e]
    simp [F_memories_in, fnOf, g_memories_in, hs, h2', opN, -c_eSplit]
theorem memories_in (l : List Nat) (T : Store) (g : Good l) : F_memories_in [tx l] T = .ok (opN (MIw (spl 32 l))) T :=
  mem_core l T (spl 32 l) (fun w hw => good_spl g hw) (eSplit_S (c := 32) (T1 := T) rfl (by rw [l_sp]; rfl) g.1 (by decide))
end K75
set_option Elab.async false
set_option linter.all false
set_option maxRecDepth 100000
set_option maxHeartbeats 4000000
namespace K75
open PySem L2 DL SX
/-! ### rows and their lines -/
def memW : Option Nat → List Nat
  | none => [42]
  | some n => TL.numL n
def lineW (r : Row) : List (List Nat) := [wIn, memW r.mem, if r.go then wAfter else wAt, TL.numL r.near, if r.go then wGo else wTake, TL.numL r.far]
def lineL (r : Row) : List Nat := jn 32 (lineW r)
def memL (many : Nat) : List Nat := jn 32 [wMem, TL.numL many]
structure RowOk (ow : List Int) (rows : List (List Mv)) (many : Nat) (r : Row) : Prop where
  mem : ∀ m, r.mem = some m → m < many
  take : r.go = false → r.near < ow.length ∧ ow[r.near]? = some 0 ∧ r.far < (rows[r.near]?.getD []).length
  go : r.go = true → r.near < (mvs rows).length ∧ r.far < many
  small : r.near < 1000000 ∧ r.far < 1000000
theorem num_free32 (n : Nat) : 32 ∉ TL.numL n := TL.numL_free (by omega)
theorem num_free10 (n : Nat) : 10 ∉ TL.numL n := TL.numL_free (by omega)
theorem num_lt {n x : Nat} (h : x ∈ TL.numL n) : x < 1000 := by have := TL.numL_digits n x h; omega
theorem memW_free32 (m : Option Nat) : 32 ∉ memW m := by cases m with | none => decide | some n => exact num_free32 n
theorem spl_lineL (r : Row) : spl 32 (lineL r) = lineW r := spl_jn (by simp [lineW]) (by
  intro l hl
  simp only [lineW, List.mem_cons, List.not_mem_nil, or_false] at hl
  rcases hl with rfl | rfl | rfl | rfl | rfl | rfl
  · decide
  · exact memW_free32 _
  · split <;> decide
  · exact num_free32 _
  · split <;> decide
  · exact num_free32 _)
theorem spl_memL (many : Nat) : spl 32 (memL many) = [wMem, TL.numL many] := spl_jn (by simp) (by
  intro l hl
  simp only [List.mem_cons, List.not_mem_nil, or_false] at hl
  rcases hl with rfl | rfl
  · decide
  · exact num_free32 _)
theorem NI_ok {n m : Nat} (h : n < m) (h8 : n < 1000000) : NI (TL.numL n) m = some n := by rw [NI_num (by omega), if_pos (by omega)]
theorem numL_star (n : Nat) : TL.numL n ≠ [42] := fun h => by
  have := TL.numL_digits n 42 (by rw [h]; simp)
  omega
theorem LIw_row {ow : List Int} {rows : List (List Mv)} {many : Nat} {r : Row} (h : RowOk ow rows many r) (hm : many ≤ 1000) : LIw ow rows many (lineW r) = some r := by
  obtain ⟨go, mem, near, far⟩ := r
  have hmem : memW mem = [42] ∨ NI (memW mem) many ≠ none := by
    cases mem with
    | none => exact .inl rfl
    | some n => exact .inr (by have := h.mem n rfl; rw [memW, NI_ok (by omega) (by omega)]; simp)
  have emem : (if memW mem = [42] then none else NI (memW mem) many) = mem := by
    cases mem with
    | none => rfl
    | some n => have := h.mem n rfl; rw [if_neg (show ¬ memW (some n) = [42] from numL_star n)]; exact NI_ok (by omega) (by omega)
  have hs := h.small
  simp only at hs
  cases go with
  | false =>
    obtain ⟨t1, t2, t3⟩ := h.take rfl
    simp only at t1 t2 t3
    have e1 : TI ow rows (TL.numL near) (TL.numL far) = some (near, far) := by
      unfold TI
      rw [NI_ok t1 hs.1]
      simp only [t2, if_true]
      rw [NI_ok t3 hs.2]
      rfl
    simp only [lineW, LIw, Bool.false_eq_true, if_false, true_and, and_self, true_or, hmem, if_true, e1, emem, Option.map_some]
    simp
  | true =>
    obtain ⟨t1, t2⟩ := h.go rfl
    simp only at t1 t2
    have e1 : SI rows many (TL.numL near) (TL.numL far) = some (near, far) := by
      unfold SI
      rw [NI_ok t1 hs.1, NI_ok t2 hs.2]
    have d1 : ¬ wAfter = wAt := by decide
    simp only [lineW, LIw, if_true, true_and, and_self, or_true, hmem, d1, false_and, false_or, if_false, e1, emem, Option.map_some]
    simp [d1]
theorem MIw_mem {many : Nat} (h1 : 1 ≤ many) (h2 : many ≤ 60) : MIw [wMem, TL.numL many] = some many := by
  have e : NI (TL.numL many) 61 = some many := NI_ok (m := 61) (by omega) (by omega)
  cases many with
  | zero => omega
  | succ n => simp only [MIw, if_true, e]
/-! lengths -/
theorem num_len {n : Nat} (h : n < 1000000) : (TL.numL n).length ≤ 6 := TL.numL_len (by omega) (by omega)
theorem mem_jn {c x : Nat} : ∀ {ls : List (List Nat)}, x ∈ jn c ls → x = c ∨ ∃ l ∈ ls, x ∈ l
  | [], h => by simp [jn, TL.joinL] at h
  | [a], h => .inr ⟨a, by simp, by simpa [jn, TL.joinL] using h⟩
  | a :: b :: r, h => by
    have h' : x ∈ a ++ [c] ++ jn c (b :: r) := by simpa [jn, TL.joinL] using h
    simp only [List.mem_append, List.mem_singleton] at h'
    rcases h' with (h' | h') | h'
    · exact .inr ⟨a, by simp, h'⟩
    · exact .inl h'
    · rcases mem_jn h' with k | ⟨l, k1, k2⟩
      · exact .inl k
      · exact .inr ⟨l, by simp only [List.mem_cons] at k1 ⊢; exact .inr k1, k2⟩
/-- words without line feeds, of small signs, at most n signs -/
def WOk (n : Nat) (l : List Nat) : Prop := l.length ≤ n ∧ 10 ∉ l ∧ ∀ c ∈ l, c < 1000
theorem wok_jn {n : Nat} {ls : List (List Nat)} (h : ∀ l ∈ ls, WOk n l) : WOk (n * ls.length + ls.length) (jn 32 ls) := by
  refine ⟨?_, fun hx => ?_, fun x hx => ?_⟩
  · have := jn_length 32 ls
    have h2 : (ls.map List.length).sum ≤ n * ls.length := by
      clear this
      induction ls with
      | nil => simp
      | cons a r ih =>
        have := ih fun l hl => h l (by simp [hl])
        have := (h a (by simp)).1
        simp only [List.map_cons, List.sum_cons, List.length_cons, Nat.mul_add]
        omega
    omega
  · rcases mem_jn hx with h1 | ⟨l, h1, h2⟩
    · omega
    · exact (h l h1).2.1 h2
  · rcases mem_jn hx with h1 | ⟨l, h1, h2⟩
    · omega
    · exact (h l h1).2.2 x h2
theorem wok_num {n : Nat} (h : n < 1000000) : WOk 8 (TL.numL n) := ⟨by have := num_len h; omega, num_free10 n, fun _ h => num_lt h⟩
theorem line_ok (r : Row) (hs : r.near < 1000000 ∧ r.far < 1000000) (hm : ∀ m, r.mem = some m → m < 1000000) : WOk 100 (lineL r) := by
  have h := wok_jn (n := 8) (ls := lineW r) (by
    intro l hl
    simp only [lineW, List.mem_cons, List.not_mem_nil, or_false] at hl
    rcases hl with rfl | rfl | rfl | rfl | rfl | rfl
    · unfold WOk; decide
    · cases e : r.mem with
      | none => unfold WOk; decide
      | some m => exact wok_num (hm m e)
    · split <;> (unfold WOk; decide)
    · exact wok_num hs.1
    · split <;> (unfold WOk; decide)
    · exact wok_num hs.2)
  exact ⟨Nat.le_trans (show (lineL r).length ≤ 54 from h.1) (by omega), h.2⟩
theorem memL_ok {n : Nat} (h : n < 1000000) : WOk 100 (memL n) := by
  have h := wok_jn (n := 8) (ls := [wMem, TL.numL n]) (by
    intro l hl
    simp only [List.mem_cons, List.not_mem_nil, or_false] at hl
    rcases hl with rfl | rfl
    · unfold WOk; decide
    · exact wok_num h)
  exact ⟨by have := h.1; simp at this; unfold memL; omega, h.2⟩
/-! ### the law's lines -/
def rowD4 (r : Row) : D := .tup [.int (if r.go then 1 else 0), opN r.mem, .int r.near, .int r.far]
theorem tadd (T : Store) (a b : List Nat) (h : a.length + b.length ≤ 16777216) : oAdd T (tx a) (tx b) = some (tx (a ++ b)) := by
  rw [DL.o_addS, S_len, S_len, sz_eq, if_pos h, S_cat]
theorem str_num (T : Store) (n : Nat) (h : n < 1000000) : bStr T [.int (n : Int)] = some (tx (TL.numL n)) := by
  have : (n : Int).natAbs.log2 < 1920 := by
    have : ((n : Int)).natAbs = n := by omega
    rw [this]
    by_cases h0 : n = 0
    · subst h0; decide
    · exact (Nat.log2_lt h0).mpr (by
        have : (2 : Nat) ^ 20 ≤ 2 ^ 1920 := Nat.pow_le_pow_right (by omega) (by omega)
        have : (2 : Nat) ^ 20 = 1048576 := by decide
        omega)
  rw [o_strI, if_pos this]
  exact congrArg (fun z => some (D.str z)) (nS n)
theorem ix_list2 (T : Store) (a b : D) (k : Bool) : oIx T (.lst [a, b]) (.int (if k then 1 else 0)) = some (if k then b else a) := by cases k <;> simp
theorem opN_isN (T : Store) (m : Option Nat) : oIsN T (opN m) .non = some (.bl m.isNone) := by cases m <;> rfl
theorem law_line_core (T : Store) (go : Bool) (mem : Option Nat) (near far : Nat) (x y z : List Nat) (hx : x.length ≤ 10) (hy : y.length ≤ 10) (hz : z.length ≤ 10)
    (h1 : ∀ m, mem = some m → bStr T [.int m] = some (tx x)) (h0 : mem = none → x = [42]) (h2 : bStr T [.int near] = some (tx y)) (h3 : bStr T [.int far] = some (tx z)) :
    F__law_line [rowD4 ⟨go, mem, near, far⟩] T = .ok (tx (jn 32 [wIn, x, if go then wAfter else wAt, y, if go then wGo else wTake, z])) T := by
  have e : jn 32 [wIn, x, if go then wAfter else wAt, y, if go then wGo else wTake, z] = (wIn ++ [32]) ++ x ++ [32] ++ (if go then wAfter else wAt) ++ [32] ++ y ++ [32] ++ (if go then wGo else wTake) ++ [32] ++ z := by simp [jn, TL.joinL]
  rw [e]
  cases mem with
  | none =>
    have := h0 rfl
    subst this
    cases go <;> simp (disch := first | (simp; done) | (simp; omega)) [F__law_line, fnOf, g__law_line, rowD4, opN, l_insp, l_sp, l_at, l_after, l_take, l_go, l_star, tadd, h2, h3, wIn, wAt, wAfter, wTake, wGo, -DL.o_addS, -o_strI]
  | some m =>
    have h1' := h1 m rfl
    cases go <;> simp (disch := first | (simp; done) | (simp; omega)) [F__law_line, fnOf, g__law_line, rowD4, opN, l_insp, l_sp, l_at, l_after, l_take, l_go, l_star, tadd, h1', h2, h3, wIn, wAt, wAfter, wTake, wGo, -DL.o_addS, -o_strI]
end K75
set_option Elab.async false
set_option linter.all false
set_option maxRecDepth 100000
set_option maxHeartbeats 4000000
namespace K75
open PySem L2 DL SX
theorem law_line (T : Store) (r : Row) (hs : r.near < 1000000 ∧ r.far < 1000000) (hm : ∀ m, r.mem = some m → m < 1000000) : F__law_line [rowD4 r] T = .ok (tx (lineL r)) T := by
  obtain ⟨go, mem, near, far⟩ := r
  refine law_line_core T go mem near far (memW mem) (TL.numL near) (TL.numL far) ?_ ?_ ?_ ?_ ?_ (str_num T near hs.1) (str_num T far hs.2)
  · cases mem with
    | none => decide
    | some m => have := num_len (hm m rfl); simp only [memW]; omega
  · have := num_len hs.1; simp only at this; omega
  · have := num_len hs.2; simp only at this; omega
  · intro m e
    subst e
    exact str_num T m (hm m rfl)
  · intro e; subst e; rfl
theorem strsOf_map {α : Type} (g : α → PySem.Str) : ∀ l : List α, strsOf (l.map fun x => D.str (g x)) = some (l.map g)
  | [] => rfl
  | x :: l => by simp [strsOf, strsOf_map g l]
theorem sum_len (ls : List (List Nat)) (h : ∀ l ∈ ls, l.length ≤ 100) : (ls.map fun l => (l ++ [10]).length).sum ≤ 101 * ls.length := by
  induction ls with
  | nil => simp
  | cons a r ih =>
    have h1 := ih fun l hl => h l (by simp [hl])
    have h2 := h a (by simp)
    simp only [List.map_cons, List.sum_cons, List.length_cons, List.length_append, List.length_nil, Nat.mul_add] at h1 ⊢
    omega
theorem join_text {g : Ev D} {Γ : Gm} {T T1 : Store} {ls : List (List Nat)} (hg : g Γ T = .ok (.lst (ls.map fun l => tx (l ++ [10]))) T1) (h : ∀ l ∈ ls, l.length ≤ 100) (hn : ls.length ≤ 100000) :
    eJoin (eC (.str "")) g Γ T = .ok (tx (jn 10 (ls ++ [[]]))) T1 := by
  have h2 := sum_len ls h
  have e1 : (ls.map fun l => S (l ++ [10])) = (ls.map (· ++ [10])).map S := by rw [List.map_map]; rfl
  have e3 : ((ls.map fun l => S (l ++ [10])).map fun x => x.length) = ls.map fun l => (l ++ [10]).length := by
    rw [List.map_map]
    exact List.map_congr_left fun l _ => S_len _
  have e0 : ("" : PySem.Str).length = 0 := by rw [l_no, S_len]; rfl
  have e2 : Txt.join "" (ls.map fun l => S (l ++ [10])) = S (jn 10 (ls ++ [[]])) := by rw [l_no, e1, join_no, joinL_nil, text_jn]
  rw [c_eJoin]
  simp only [c_eC, RE.bind_ok, hg]
  have e4 : viewL T1 (.lst (ls.map fun l => tx (l ++ [10]))) = some (ls.map fun l => tx (l ++ [10])) := rfl
  rw [e4, Option.bind_some, strsOf_map]
  simp only [e3, e0, e2]
  exact if_pos (by rw [Nat.mul_zero]; simp only [List.length_append, List.length_cons, List.length_nil] at h2 ⊢; omega)
def linesT (many : Nat) (rs : List Row) : List (List Nat) := memL many :: rs.map lineL
def Small (r : Row) : Prop := (r.near < 1000000 ∧ r.far < 1000000) ∧ ∀ m, r.mem = some m → m < 1000000
theorem linesT_ok {many : Nat} {rs : List Row} (h1 : many < 1000000) (h2 : ∀ r ∈ rs, Small r) : ∀ l ∈ linesT many rs, WOk 100 l := by
  intro l hl
  simp only [linesT, List.mem_cons, List.mem_map] at hl
  rcases hl with rfl | ⟨r, hr, rfl⟩
  · exact memL_ok h1
  · exact line_ok r (h2 r hr).1 (h2 r hr).2
theorem feed_lc {t : Tgt} {f : Ev D} {Γ : Gm} {T : Store} {ls : List (List Nat)} (h : ∀ l ∈ ls, l.length ≤ 100) (hk : ∀ l : List Nat, ∃ Γ1, t.run (tx l) Γ = some Γ1 ∧ ∀ z, oAdd T (tx l) (.str "\n") = some z → f Γ1 T = .ok z T) :
    lcL t bYes f Γ (ls.map tx) T = .ok (ls.map fun l => tx (l ++ [10])) T := lcL_all tx (fun l => tx (l ++ [10])) ls fun l hl => by
  obtain ⟨Γ1, e1, e2⟩ := hk l
  have := h l hl
  rw [e1]
  simp only [Option.elim_some]
  exact e2 _ (by rw [l_nl, tadd T l [10] (by simp; omega)])
theorem law_text (T : Store) (many : Nat) (rs : List Row) (h1 : many < 1000000) (h2 : ∀ r ∈ rs, Small r) (h3 : rs.length ≤ 10000) : F__law_text [.int many, .lst (rs.map rowD4)] T = .ok (tx (jn 10 (linesT many rs ++ [[]]))) T := by
  have ok := linesT_ok h1 h2
  have a1 : lcL lt1__law_text bYes lf1__law_text [some (.val (.int many)), some (.val (.lst (rs.map rowD4))), none, none] (rs.map rowD4) T = .ok (rs.map fun r => tx (lineL r)) T :=
    lcL_all rowD4 (fun r => tx (lineL r)) rs fun r hr => by
      simp [lt1__law_text, lf1__law_text, law_line T r (h2 r hr).1 (h2 r hr).2]
  have a2 : lcL lt2__law_text bYes lf2__law_text [some (.val (.int many)), some (.val (.lst (rs.map rowD4))), none, none] ((linesT many rs).map tx) T = .ok ((linesT many rs).map fun l => tx (l ++ [10])) T :=
    feed_lc (fun l hl => (ok l hl).1) fun l => ⟨_, rfl, fun z hz => by simp [lf2__law_text, hz, -DL.o_addS]⟩
  have e : (linesT many rs).map tx = tx (memL many) :: rs.map fun r => tx (lineL r) := by simp [linesT]
  have n1 := str_num T many h1
  have n2 : oAdd T (.str "memories ") (tx (TL.numL many)) = some (tx (memL many)) := by
    rw [l_memsp, tadd T _ _ (by have := num_len h1; simp [wMem]; omega)]
    simp [memL, jn, TL.joinL]
  have hl : (linesT many rs).length = rs.length + 1 := by simp [linesT]
  have key : (eFrz (nLc (iSeq (eBin2 oAdd (eFrz (nLst (aCons (eBin2 oAdd (eC (.str "memories ")) (eFn bStr (aCons (eVb 0) (aNil)))) (aNil)))) (eFrz (nLc (iSeq (eV 1)) [3] (lt1__law_text) (bYes) (lf1__law_text))))) [2] (lt2__law_text) (bYes) (lf2__law_text))) [some (.val (.int many)), some (.val (.lst (rs.map rowD4))), none, none] T
      = .ok (.lst ((linesT many rs).map fun l => tx (l ++ [10]))) T := by
    have q1 : rs.length ≤ 16777216 := by omega
    have q2 : 1 + rs.length ≤ 16777216 := by omega
    have q3 : rs.length + 1 ≤ 16777216 := by omega
    rw [e] at a2
    simp [n1, n2, a1, q1, q2, q3, a2, -o_strI, -DL.o_addS]
  have z := join_text key (fun l hl => (ok l hl).1) (by omega)
  simp [F__law_text, fnOf, g__law_text, z, -c_eJoin]
end K75
set_option Elab.async false
set_option linter.all false
set_option maxRecDepth 100000
set_option maxHeartbeats 4000000
namespace K75
open PySem L2 DL SX
/-! ### hands by whole numbers -/
def iD (n : Nat) : D := .int n
def tkN (t : List (Option Nat)) : D := .tup (t.map opN)
def nxN (t : List Nat) : D := .tup (t.map iD)
def hdN (tk : List (List (Option Nat))) (nx : List (List Nat)) : D := .tup [.str "hand", .tup (tk.map tkN), .tup (nx.map nxN)]
structure HOk (ow : List Int) (rows : List (List Mv)) (many : Nat) (tk : List (List (Option Nat))) (nx : List (List Nat)) : Prop where
  lt : tk.length = many
  ln : nx.length = many
  tl : ∀ t ∈ tk, t.length = ow.length
  tv : ∀ t ∈ tk, ∀ (i : Nat) (o : Int) (v : Option Nat) (r : List Mv), ow[i]? = some o → t[i]? = some v → rows[i]? = some r → (o ≠ 0 → v = none) ∧ (o = 0 → ∃ k, v = some k ∧ k < r.length)
  nl : ∀ n ∈ nx, n.length = (mvs rows).length
  nv : ∀ n ∈ nx, ∀ k ∈ n, k < many
def tI (t : List (Option Nat)) : List (Option Int) := t.map (Option.map Int.ofNat)
def nI (t : List Nat) : List Int := t.map Int.ofNat
theorem tkD_tI (t : List (Option Nat)) : tkD (tI t) = tkN t := by
  simp only [tkD, tI, tkN, List.map_map]
  congr 1
  exact List.map_congr_left fun v _ => by cases v <;> rfl
theorem nxD_nI (t : List Nat) : nxD (nI t) = nxN t := by
  simp only [nxD, nI, nxN, List.map_map]
  rfl
theorem hdN_eq (tk : List (List (Option Nat))) (nx : List (List Nat)) : hdN tk nx = mcD "hand" (tk.map tI) (nx.map nI) := by
  simp only [hdN, mcD, List.map_map]
  have e1 : tk.map (tkD ∘ tI) = tk.map tkN := List.map_congr_left fun t _ => tkD_tI t
  have e2 : nx.map (nxD ∘ nI) = nx.map nxN := List.map_congr_left fun t _ => nxD_nI t
  rw [e1, e2]
theorem HOk.mok {ow : List Int} {rows : List (List Mv)} {many : Nat} {tk : List (List (Option Nat))} {nx : List (List Nat)} (H : HOk ow rows many tk nx) (h1 : 1 ≤ many) (h2 : many ≤ 60) : MOk ow rows 0 60 (tk.map tI) (nx.map nI) where
  n1 := by rw [List.length_map, H.lt]; exact h1
  nm := by rw [List.length_map, H.lt]; exact h2
  len := by rw [List.length_map, List.length_map, H.lt, H.ln]
  tl := fun t ht => by
    obtain ⟨u, hu, rfl⟩ := List.mem_map.mp ht
    rw [tI, List.length_map]
    exact H.tl u hu
  tv := fun t ht i o v r e1 e2 e3 => by
    obtain ⟨u, hu, rfl⟩ := List.mem_map.mp ht
    rw [tI, List.getElem?_map] at e2
    cases e4 : u[i]? with
    | none => rw [e4] at e2; cases e2
    | some w =>
      rw [e4] at e2
      cases e2
      obtain ⟨k1, k2⟩ := H.tv u hu i o w r e1 e4 e3
      refine ⟨fun h => by rw [k1 h]; rfl, fun h => ?_⟩
      obtain ⟨k, rfl, hk⟩ := k2 h
      exact ⟨k, rfl, by omega, by omega⟩
  nl := fun t ht => by
    obtain ⟨u, hu, rfl⟩ := List.mem_map.mp ht
    rw [nI, List.length_map]
    exact H.nl u hu
  nv := fun t ht k hk => by
    obtain ⟨u, hu, rfl⟩ := List.mem_map.mp ht
    obtain ⟨x, hx, rfl⟩ := List.mem_map.mp hk
    have := H.nv u hu x hx
    rw [List.length_map, H.lt]
    exact ⟨Int.natCast_nonneg _, by show (x : Int) < _; omega⟩
/-! ### the rows of a hand's text -/
def hT (m : Nat) (t : List (Option Nat)) : List Row := (t.zipIdx.filter fun p => p.1.isSome).map fun p => ⟨false, some m, p.2, p.1.getD 0⟩
def hN (m : Nat) (n : List Nat) : List Row := (n.zipIdx.filter fun p => decide (p.1 ≠ m)).map fun p => ⟨true, some m, p.2, p.1⟩
def hR (tk : List (List (Option Nat))) (nx : List (List Nat)) (m : Nat) : List Row := hT m (tk[m]?.getD []) ++ hN m (nx[m]?.getD [])
def hrows (tk : List (List (Option Nat))) (nx : List (List Nat)) : List Row := (List.range tk.length).flatMap (hR tk nx)
theorem enum_opN (t : List (Option Nat)) : enumD (t.map opN) = t.zipIdx.map fun p => .tup [.int (p.2 : Int), opN p.1] := by rw [enumD_eq, enumF_map]
theorem enum_iD (t : List Nat) : enumD (t.map iD) = t.zipIdx.map fun p => .tup [.int (p.2 : Int), .int (p.1 : Int)] := by rw [enumD_eq, enumF_map]; rfl
theorem opN_notN (T : Store) (m : Option Nat) : oNotN T (opN m) .non = some (.bl m.isSome) := by cases m <;> rfl
theorem hT_len (m : Nat) (t : List (Option Nat)) : (hT m t).length ≤ t.length := by
  rw [hT, List.length_map]
  exact Nat.le_trans (List.length_filter_le _ _) (by simp)
theorem hN_len (m : Nat) (t : List Nat) : (hN m t).length ≤ t.length := by
  rw [hN, List.length_map]
  exact Nat.le_trans (List.length_filter_le _ _) (by simp)
theorem rows_lc1 (T : Store) (Γ : Gm) (m : Nat) (t : List (Option Nat)) (x0 x1 x3 x4 x5 : Option Sl) (e : Γ = [x0, x1, some (.val (.int m)), x3, x4, x5]) :
    lcL lt1__law_rows lc1__law_rows lf1__law_rows Γ (t.zipIdx.map fun p => .tup [.int (p.2 : Int), opN p.1]) T = .ok ((hT m t).map rowD4) T := by
  have := lcL_ok (t := lt1__law_rows) (c := lc1__law_rows) (f := lf1__law_rows) (Γ := Γ) (S := T) (fun p : Option Nat × Nat => .tup [.int (p.2 : Int), opN p.1]) (fun p => p.1.isSome) (fun p => rowD4 ⟨false, some m, p.2, p.1.getD 0⟩) t.zipIdx
    (fun p _ => by subst e; simp [lt1__law_rows, lc1__law_rows, opN_notN])
    (fun p _ hp => by
      obtain ⟨k, hk⟩ := Option.isSome_iff_exists.mp hp
      subst e; simp [lt1__law_rows, lf1__law_rows, rowD4, hk, opN])
  rw [this, hT, List.map_map]
  rfl
theorem rows_lc2 (T : Store) (Γ : Gm) (m : Nat) (t : List Nat) (x0 x1 x3 x4 x5 : Option Sl) (e : Γ = [x0, x1, some (.val (.int m)), x3, x4, x5]) :
    lcL lt2__law_rows lc2__law_rows lf2__law_rows Γ (t.zipIdx.map fun p => .tup [.int (p.2 : Int), .int (p.1 : Int)]) T = .ok ((hN m t).map rowD4) T := by
  have := lcL_ok (t := lt2__law_rows) (c := lc2__law_rows) (f := lf2__law_rows) (Γ := Γ) (S := T) (fun p : Nat × Nat => .tup [.int (p.2 : Int), .int (p.1 : Int)]) (fun p => decide (p.1 ≠ m)) (fun p => rowD4 ⟨true, some m, p.2, p.1⟩) t.zipIdx
    (fun p _ => by
      subst e
      have : (((p.1 : Nat) : Int) = (m : Nat)) ↔ p.1 = m := by omega
      simp [lt2__law_rows, lc2__law_rows, this])
    (fun p _ hp => by subst e; simp [lt2__law_rows, lf2__law_rows, rowD4, opN])
  rw [this, hN, List.map_map]
  rfl
theorem rows_loop (T : Store) (tk : List (List (Option Nat))) (nx : List (List Nat)) : ∀ (l : List Nat) (b : List Row), (∀ m ∈ l, ∃ t n, tk[m]? = some t ∧ nx[m]? = some n ∧ t.length ≤ 24 ∧ n.length ≤ 200) → b.length + 300 * l.length ≤ 100000 →
    forL t1__law_rows b1__law_rows (l.map iD) [some (.val (hdN tk nx)), some (.own (.lst (b.map rowD4))), none, none, none, none] T = .nx [some (.val (hdN tk nx)), some (.own (.lst ((b ++ l.flatMap (hR tk nx)).map rowD4))), none, none, none, none] T := by
  intro l
  induction l with
  | nil => intro b _ _; simp
  | cons m l ih =>
    intro b h hb
    obtain ⟨t, n, e1, e2, l1, l2⟩ := h m (by simp)
    have g1 := hT_len m t
    have g2 := hN_len m n
    have eR : hR tk nx m = hT m t ++ hN m n := by rw [hR, e1, e2]; rfl
    simp only [List.length_cons, Nat.mul_add] at hb
    have := ih (b ++ hR tk nx m) (fun m' hm => h m' (by simp [hm])) (by rw [eR]; simp only [List.length_append]; omega)
    rw [List.map_cons, List.flatMap_cons, ← List.append_assoc, ← this]
    refine forL_nx (Γ1 := [some (.val (hdN tk nx)), some (.own (.lst (b.map rowD4))), some (.val (iD m)), none, none, none]) rfl ?_
    have a1 : L2.atI (tk.map tkN) (m : Int) = some (tkN t) := atI_map e1
    have a2 : L2.atI (nx.map nxN) (m : Int) = some (nxN n) := atI_map e2
    have c1 := fun y x => rows_lc1 T _ m t y x none none none rfl
    have c2 := fun y x => rows_lc2 T _ m n y x none none none rfl
    have z1 : t.length ≤ 16777216 := by omega
    have z2 : n.length ≤ 16777216 := by omega
    have z3 : b.length + (hT m t).length ≤ 16777216 := by omega
    have z4 : b.length + (hT m t).length + (hN m n).length ≤ 16777216 := by omega
    have z5 : b.length + ((hT m t).length + (hN m n).length) ≤ 16777216 := by omega
    simp only [tkN] at a1
    simp only [nxN] at a2
    rw [eR, List.map_append, List.map_append]
    simp [b1__law_rows, hdN, iD, enum_opN, enum_iD, a1, a2, c1, c2, z1, z2, z3, z4, z5, tkN, nxN]
end K75
set_option Elab.async false
set_option linter.all false
set_option maxRecDepth 100000
set_option maxHeartbeats 4000000
namespace K75
open PySem L2 DL SX
theorem range1 {n : Int} (h0 : 0 ≤ n) (h1 : n ≤ 1000000) : rangeD [.int n] = some (rngD 0 n.toNat) := by
  unfold rangeD
  have e1 : -(2 : Int) ^ 62 ≤ n := by rw [p62]; omega
  have e2 : n < (2 : Int) ^ 62 := by rw [p62]; omega
  exact if_pos ⟨e1, e2⟩
theorem rgN {n : Nat} (h : n ≤ 1000000) : rangeD [.int (n : Int)] = some ((List.range n).map iD) := by
  rw [range1 (by omega) (by omega), rngD_eq]
  congr 1
  have : (n : Int).toNat = n := by omega
  rw [this]
  exact List.map_congr_left fun i _ => by simp [iD]
theorem law_rows_core (T : Store) (hd : D) (l : D) (n : Int) (zs : List D) (rs : List D) (ea : oIx T hd (.int 1) = some l) (el : bLen T [l] = some (.int n)) (rg : rangeD [.int n] = some zs)
    (lp : forL t1__law_rows b1__law_rows zs [some (.val hd), some (.own (.lst [])), none, none, none, none] T = .nx [some (.val hd), some (.own (.lst rs)), none, none, none, none] T) : F__law_rows [hd] T = .ok (.lst rs) T := by
  simp [F__law_rows, fnOf, g__law_rows, ea, el, rg, lp]
theorem law_rows (T : Store) {ow : List Int} {rows : List (List Mv)} {many : Nat} {tk : List (List (Option Nat))} {nx : List (List Nat)} {L : Int} (P : PlOk L ow rows) (H : HOk ow rows many tk nx) (hm : many ≤ 60) :
    F__law_rows [hdN tk nx] T = .ok (.lst ((hrows tk nx).map rowD4)) T := by
  have h200 := mvs_le P
  have h24 := P.n24
  have hl := P.len
  have e1 := H.lt
  have e2 := H.ln
  refine law_rows_core T (hdN tk nx) (.tup (tk.map tkN)) tk.length ((List.range tk.length).map iD) ((hrows tk nx).map rowD4) ?_ ?_ ?_ ?_
  · unfold hdN; rw [o_ixT]; exact atI_1 _ _ _
  · rw [o_lenT, List.length_map]
  · exact rgN (n := tk.length) (by omega)
  · exact rows_loop T tk nx (List.range tk.length) [] (fun m hm' => by
      have := List.mem_range.mp hm'
      refine ⟨tk[m], nx[m], List.getElem?_eq_getElem _, List.getElem?_eq_getElem _, ?_, ?_⟩
      · rw [H.tl _ (List.getElem_mem _)]; omega
      · rw [H.nl _ (List.getElem_mem _)]; exact h200) (by simp; omega)
/-! ### the program's lines -/
theorem line_text (go : Bool) (m p q : Nat) : lineL ⟨go, some m, p, q⟩ = (wIn ++ [32]) ++ TL.numL m ++ ([32] ++ (if go then wAfter else wAt) ++ [32]) ++ TL.numL p ++ ([32] ++ (if go then wGo else wTake) ++ [32]) ++ TL.numL q := by
  simp [lineL, lineW, jn, TL.joinL, memW]
theorem isN0 (T : Store) : oNotN T .non .non = some (.bl false) := rfl
theorem isN1 (T : Store) (i : Int) : oNotN T (.int i) .non = some (.bl true) := rfl
theorem lines_step1 (T : Store) (hd t : D) (acc : List D) (m : Nat) (v : Option Nat) (p : Nat) (hm : m < 1000000) (hp : p < 1000000) (hv : ∀ k, v = some k → k < 1000000) (ha : acc.length < 10000000) (x0 : Option Sl) :
    (t1_lines_of.run (.tup [.int (p : Int), opN v]) [x0, some (.val hd), some (.own (.lst acc)), some (.val (.int m)), some (.val t), some (.val (tx ((wIn ++ [32]) ++ TL.numL m))), none, none, none, none]).elim .no (fun Γ => b1_lines_of Γ T) =
      .nx [x0, some (.val hd), some (.own (.lst (acc ++ (v.toList.map fun q => tx (lineL ⟨false, some m, p, q⟩))))), some (.val (.int m)), some (.val t), some (.val (tx ((wIn ++ [32]) ++ TL.numL m))), none, none, none, none] T := by
  have lm := num_len hm
  have lp := num_len hp
  cases v with
  | none => simp [t1_lines_of, b1_lines_of, opN, isN0]
  | some q =>
    have lq := num_len (hv q rfl)
    have np := str_num T p hp
    have nq := str_num T q (hv q rfl)
    have z : acc.length < 16777216 := by omega
    simp only [Option.toList_some, List.map_cons, List.map_nil, line_text, Bool.false_eq_true, if_false]
    generalize TL.numL m = x at *
    generalize TL.numL p = y at *
    generalize TL.numL q = w at *
    simp (disch := first | (simp; done) | (simp; omega)) [t1_lines_of, b1_lines_of, opN, isN1, l_atsp, l_takesp, tadd, np, nq, wIn, wAt, wTake, z, -DL.o_addS, -o_strI]
theorem lines_step2 (T : Store) (hd t : D) (acc : List D) (m : Nat) (v : Nat) (p : Nat) (hm : m < 1000000) (hp : p < 1000000) (hv : v < 1000000) (ha : acc.length < 10000000) (x0 : Option Sl) :
    (t2_lines_of.run (.tup [.int (p : Int), .int (v : Int)]) [x0, some (.val hd), some (.own (.lst acc)), some (.val (.int m)), some (.val t), some (.val (tx ((wIn ++ [32]) ++ TL.numL m))), none, none, none, none]).elim .no (fun Γ => b2_lines_of Γ T) =
      .nx [x0, some (.val hd), some (.own (.lst (acc ++ (if v = m then [] else [tx (lineL ⟨true, some m, p, v⟩)])))), some (.val (.int m)), some (.val t), some (.val (tx ((wIn ++ [32]) ++ TL.numL m))), none, none, none, none] T := by
  have lm := num_len hm
  have lp := num_len hp
  have lq := num_len hv
  have np := str_num T p hp
  have nq := str_num T v hv
  have z : acc.length < 16777216 := by omega
  have ec : (((v : Nat) : Int) = ((m : Nat) : Int)) = (v = m) := by rw [eq_iff_iff]; omega
  by_cases hvm : v = m
  · rw [if_pos hvm]
    simp [t2_lines_of, b2_lines_of, ec, hvm]
  · simp only [line_text, if_neg hvm]
    generalize TL.numL m = x at *
    generalize TL.numL p = y at *
    generalize TL.numL v = w at *
    simp (disch := first | (simp; done) | (simp; omega)) [t2_lines_of, b2_lines_of, ec, hvm, l_aftersp, l_gosp, tadd, np, nq, wIn, wAfter, wGo, z, -DL.o_addS, -o_strI]
theorem lines_loop1 (T : Store) (hd t : D) (m : Nat) (hm : m < 1000000) (x0 : Option Sl) : ∀ (l : List (Option Nat × Nat)) (acc : List D), (∀ p ∈ l, p.2 < 1000000 ∧ ∀ k, p.1 = some k → k < 1000000) → acc.length + l.length ≤ 1000000 →
    forL t1_lines_of b1_lines_of (l.map fun p => .tup [.int (p.2 : Int), opN p.1]) [x0, some (.val hd), some (.own (.lst acc)), some (.val (.int m)), some (.val t), some (.val (tx ((wIn ++ [32]) ++ TL.numL m))), none, none, none, none] T =
      .nx [x0, some (.val hd), some (.own (.lst (acc ++ ((l.filter fun p => p.1.isSome).map fun p => tx (lineL ⟨false, some m, p.2, p.1.getD 0⟩))))), some (.val (.int m)), some (.val t), some (.val (tx ((wIn ++ [32]) ++ TL.numL m))), none, none, none, none] T := by
  intro l
  induction l with
  | nil => intro acc _ _; simp
  | cons p l ih =>
    intro acc h ha
    obtain ⟨v, i⟩ := p
    obtain ⟨h1, h2⟩ := h (v, i) (by simp)
    simp only [List.length_cons] at ha
    have st := lines_step1 T hd t acc m v i hm h1 h2 (by omega) x0
    have lv : v.toList.length ≤ 1 := by cases v <;> simp
    have ih' := ih (acc ++ (v.toList.map fun q => tx (lineL ⟨false, some m, i, q⟩))) (fun q hq => h q (by simp [hq])) (by simp only [List.length_append, List.length_map]; omega)
    rw [List.map_cons]
    cases e : t1_lines_of.run (.tup [.int (i : Int), opN v]) [x0, some (.val hd), some (.own (.lst acc)), some (.val (.int m)), some (.val t), some (.val (tx ((wIn ++ [32]) ++ TL.numL m))), none, none, none, none] with
    | none => rw [e] at st; cases st
    | some Γ1 =>
      rw [e] at st
      rw [forL_nx e st, ih']
      cases v <;> simp
theorem lines_loop2 (T : Store) (hd t : D) (m : Nat) (hm : m < 1000000) (x0 : Option Sl) : ∀ (l : List (Nat × Nat)) (acc : List D), (∀ p ∈ l, p.2 < 1000000 ∧ p.1 < 1000000) → acc.length + l.length ≤ 1000000 →
    forL t2_lines_of b2_lines_of (l.map fun p => .tup [.int (p.2 : Int), .int (p.1 : Int)]) [x0, some (.val hd), some (.own (.lst acc)), some (.val (.int m)), some (.val t), some (.val (tx ((wIn ++ [32]) ++ TL.numL m))), none, none, none, none] T =
      .nx [x0, some (.val hd), some (.own (.lst (acc ++ ((l.filter fun p => decide (p.1 ≠ m)).map fun p => tx (lineL ⟨true, some m, p.2, p.1⟩))))), some (.val (.int m)), some (.val t), some (.val (tx ((wIn ++ [32]) ++ TL.numL m))), none, none, none, none] T := by
  intro l
  induction l with
  | nil => intro acc _ _; simp
  | cons p l ih =>
    intro acc h ha
    obtain ⟨v, i⟩ := p
    obtain ⟨h1, h2⟩ := h (v, i) (by simp)
    simp only [List.length_cons] at ha
    have st := lines_step2 T hd t acc m v i hm h1 h2 (by omega) x0
    have lv : (if v = m then [] else [tx (lineL ⟨true, some m, i, v⟩)]).length ≤ 1 := by split <;> simp
    have ih' := ih (acc ++ (if v = m then [] else [tx (lineL ⟨true, some m, i, v⟩)])) (fun q hq => h q (by simp [hq])) (by simp only [List.length_append]; omega)
    rw [List.map_cons]
    cases e : t2_lines_of.run (.tup [.int (i : Int), .int (v : Int)]) [x0, some (.val hd), some (.own (.lst acc)), some (.val (.int m)), some (.val t), some (.val (tx ((wIn ++ [32]) ++ TL.numL m))), none, none, none, none] with
    | none => rw [e] at st; cases st
    | some Γ1 =>
      rw [e] at st
      rw [forL_nx e st, ih']
      by_cases hvm : v = m <;> simp [hvm]
theorem lines_body (T : Store) (hd : D) (t : List (Option Nat)) (n : List Nat) (acc : List D) (m : Nat) (x0 : Option Sl) (hm : m < 1000000) (ht : t.length ≤ 24) (hn : n.length ≤ 200) (hv : ∀ k, some k ∈ t → k < 1000000) (hw : ∀ k ∈ n, k < 1000000) (ha : acc.length ≤ 900000)
    (a2 : ∀ nxs, oIx T hd (.int 2) = some (.tup nxs) → L2.atI nxs (m : Int) = some (nxN n)) (nxs : List D) (a1 : oIx T hd (.int 2) = some (.tup nxs)) :
    (t3_lines_of.run (.tup [.int (m : Int), tkN t]) [x0, some (.val hd), some (.own (.lst acc)), none, none, none, none, none, none, none]).elim .no (fun Γ => b3_lines_of Γ T) =
      .nx [x0, some (.val hd), some (.own (.lst (acc ++ (hT m t ++ hN m n).map fun r => tx (lineL r)))), none, none, none, none, none, none, none] T := by
  have z1 : t.zipIdx.length = t.length := by simp
  have z2 : n.zipIdx.length = n.length := by simp
  have l1 := fun tt => lines_loop1 T hd tt m hm x0 t.zipIdx acc (fun p hp => by
    have := zipIdx_mem hp
    have hl := (List.getElem?_eq_some_iff.mp this).1
    exact ⟨by omega, fun k hk => hv k (by rw [← hk]; exact List.mem_of_getElem? this)⟩) (by omega)
  have g1 := hT_len m t
  have l2 := fun tt => lines_loop2 T hd tt m hm x0 n.zipIdx (acc ++ (hT m t).map fun r => tx (lineL r)) (fun p hp => by
    have := zipIdx_mem hp
    have hl := (List.getElem?_eq_some_iff.mp this).1
    exact ⟨by omega, hw _ (List.mem_of_getElem? this)⟩) (by simp only [List.length_append, List.length_map]; omega)
  have a3 := a2 nxs a1
  have np := str_num T m hm
  have lm := num_len hm
  have e1 : ((t.zipIdx.filter fun p => p.1.isSome).map fun p => tx (lineL ⟨false, some m, p.2, p.1.getD 0⟩)) = (hT m t).map fun r => tx (lineL r) := by rw [hT, List.map_map]; rfl
  have e2 : ((n.zipIdx.filter fun p => decide (p.1 ≠ m)).map fun p => tx (lineL ⟨true, some m, p.2, p.1⟩)) = (hN m n).map fun r => tx (lineL r) := by rw [hN, List.map_map]; rfl
  have en1 := enum_opN t
  have en2 := enum_iD n
  rw [List.map_append, ← List.append_assoc]
  simp only [e1] at l1
  simp only [e2] at l2
  simp only [nxN] at a3
  have ad : oAdd T (.str "in ") (tx (TL.numL m)) = some (tx ((wIn ++ [32]) ++ TL.numL m)) := by rw [l_insp, tadd T _ _ (by simp [wIn]; omega)]
  generalize (wIn ++ [32]) ++ TL.numL m = w at *
  generalize (hT m t).map (fun r => tx (lineL r)) = r1 at *
  generalize (hN m n).map (fun r => tx (lineL r)) = r2 at *
  simp [t3_lines_of, b3_lines_of, tkN, np, ad, en1, l1, a1, a3, en2, l2, -DL.o_addS, -o_strI]
end K75
set_option Elab.async false
set_option linter.all false
set_option maxRecDepth 100000
set_option maxHeartbeats 4000000
namespace K75
open PySem L2 DL SX
theorem lines_loop (T : Store) (x0 : Option Sl) (tk : List (List (Option Nat))) (nx : List (List Nat)) : ∀ (l : List (List (Option Nat) × Nat)) (acc : List D),
    (∀ p ∈ l, tk[p.2]? = some p.1 ∧ p.2 < 1000000 ∧ ∃ n, nx[p.2]? = some n ∧ p.1.length ≤ 24 ∧ n.length ≤ 200 ∧ (∀ k, some k ∈ p.1 → k < 1000000) ∧ ∀ k ∈ n, k < 1000000) → acc.length + 300 * l.length ≤ 900000 →
    forL t3_lines_of b3_lines_of (l.map fun p => .tup [.int (p.2 : Int), tkN p.1]) [x0, some (.val (hdN tk nx)), some (.own (.lst acc)), none, none, none, none, none, none, none] T =
      .nx [x0, some (.val (hdN tk nx)), some (.own (.lst (acc ++ (l.flatMap fun p => hR tk nx p.2).map fun r => tx (lineL r)))), none, none, none, none, none, none, none] T := by
  intro l
  induction l with
  | nil => intro acc _ _; simp
  | cons p l ih =>
    intro acc h ha
    obtain ⟨t, m⟩ := p
    obtain ⟨h1, h2, n, h3, h4, h5, h6, h7⟩ := h (t, m) (by simp)
    simp only at h1 h2 h3 h4 h5 h6 h7
    simp only [List.length_cons, Nat.mul_add] at ha
    have g1 := hT_len m t
    have g2 := hN_len m n
    have eR : hR tk nx m = hT m t ++ hN m n := by rw [hR, h1, h3]; rfl
    have ax : oIx T (hdN tk nx) (.int 2) = some (.tup (nx.map nxN)) := by unfold hdN; rw [o_ixT]; exact atI_2 _ _ _ _
    have st := lines_body T (hdN tk nx) t n acc m x0 h2 h4 h5 h6 h7 (by omega) (fun nxs e => by rw [ax] at e; cases e; exact atI_map h3) _ ax
    have ih' := ih (acc ++ (hT m t ++ hN m n).map fun r => tx (lineL r)) (fun q hq => h q (by simp [hq])) (by simp only [List.length_append, List.length_map]; omega)
    rw [List.map_cons]
    cases e : t3_lines_of.run (.tup [.int (m : Int), tkN t]) [x0, some (.val (hdN tk nx)), some (.own (.lst acc)), none, none, none, none, none, none, none] with
    | none => rw [e] at st; cases st
    | some Γ1 =>
      rw [e] at st
      rw [forL_nx e st, ih']
      simp only [List.flatMap_cons, eR, List.map_append, List.append_assoc]
theorem lines_core (T : Store) (pl hd l : D) (n : Int) (z : List D) (ls : List D) (m0 : D) (x : PySem.Str) (ea : oIx T hd (.int 1) = some (.tup z)) (el : bLen T [.tup z] = some (.int n)) (es : bStr T [.int n] = some (.str x)) (ed : oAdd T (.str "memories ") (.str x) = some m0) (zs : List D) (ee : enumD z = zs)
    (lp : forL t3_lines_of b3_lines_of zs [some (.val pl), some (.val hd), some (.own (.lst [m0])), none, none, none, none, none, none, none] T = .nx [some (.val pl), some (.val hd), some (.own (.lst ls)), none, none, none, none, none, none, none] T) :
    F_lines_of [pl, hd] T = .ok (.lst ls) T := by
  simp [F_lines_of, fnOf, g_lines_of, ea, el, es, ed, ee, lp, -DL.o_addS, -o_strI, -o_lenT]
theorem flatMap_zipIdx {α β : Type} (l : List α) (f : Nat → List β) : ∀ k, ((l.zipIdx k).flatMap fun p => f p.2) = (List.range' k l.length).flatMap f := by
  induction l with
  | nil => intro k; simp
  | cons a l ih => intro k; simp [List.zipIdx_cons, List.range'_succ, ih]
theorem lines_of (T : Store) {ow : List Int} {rows : List (List Mv)} {many : Nat} {tk : List (List (Option Nat))} {nx : List (List Nat)} {L : Int} (P : PlOk L ow rows) (H : HOk ow rows many tk nx) (hm : many ≤ 60) :
    F_lines_of [plD L ow rows, hdN tk nx] T = .ok (.lst ((linesT many (hrows tk nx)).map tx)) T := by
  have h200 := mvs_le P
  have h24 := P.n24
  have hl := P.len
  have e1 := H.lt
  have e2 := H.ln
  have es := str_num T many (by omega)
  have h60 : many < 1000000 := by omega
  refine lines_core T (plD L ow rows) (hdN tk nx) (tkN []) (many : Nat) (tk.map tkN) _ (tx (memL many)) (S (TL.numL many)) ?_ ?_ es ?_ (tk.zipIdx.map fun p => .tup [.int (p.2 : Int), tkN p.1]) ?_ ?_
  · unfold hdN; rw [o_ixT]; exact atI_1 _ _ _
  · rw [o_lenT, List.length_map, e1]
  · rw [l_memsp, tadd T _ _ (by have := num_len h60; simp [wMem]; omega)]
    simp [memL, jn, TL.joinL]
  · rw [enumD_eq, enumF_map]
  · have lp := lines_loop T (some (.val (plD L ow rows))) tk nx tk.zipIdx [tx (memL many)] (fun p hp => by
      have h1 := zipIdx_mem hp
      have h2 := (List.getElem?_eq_some_iff.mp h1).1
      have ht := List.mem_of_getElem? h1
      refine ⟨h1, by omega, nx[p.2], List.getElem?_eq_getElem _, ?_, ?_, fun k hk => ?_, fun k hk => ?_⟩
      · rw [H.tl _ ht]; omega
      · rw [H.nl _ (List.getElem_mem _)]; exact h200
      · obtain ⟨i, hi⟩ := List.mem_iff_getElem?.mp hk
        have hil := (List.getElem?_eq_some_iff.mp hi).1
        have tl := H.tl _ ht
        have o1 : ow[i]? = some ow[i] := List.getElem?_eq_getElem (by omega)
        have r1 : rows[i]? = some rows[i] := List.getElem?_eq_getElem (by omega)
        obtain ⟨k1, k2⟩ := H.tv _ ht i _ _ _ o1 hi r1
        by_cases h0 : ow[i] = 0
        · obtain ⟨k', e, hk'⟩ := k2 h0
          cases e
          have := (P.row _ (List.mem_of_getElem? r1)).2
          omega
        · cases k1 h0
      · have := H.nv _ (List.getElem_mem _) k hk; omega) (by simp; omega)
    rw [lp]
    congr 4
    rw [flatMap_zipIdx, ← List.range_eq_range']
    simp [linesT, hrows]
theorem hand_text_core (T : Store) (pl hd : D) (ls : List (List Nat)) (ok : ∀ l ∈ ls, l.length ≤ 100) (hn : ls.length ≤ 100000) (wp : F_want_plant [pl] T = .ok pl T) (wh : F_want_hand [pl, hd] T = .ok hd T) (lo : F_lines_of [pl, hd] T = .ok (.lst (ls.map tx)) T) :
    F_hand_text [pl, hd] T = .ok (tx (jn 10 (ls ++ [[]]))) T := by
  have a2 : lcL lt1_hand_text bYes lf1_hand_text [some (.val pl), some (.val hd), none] (ls.map tx) T = .ok (ls.map fun l => tx (l ++ [10])) T :=
    feed_lc ok fun l => ⟨_, rfl, fun z hz => by simp [lf1_hand_text, hz, -DL.o_addS]⟩
  have q : ls.length ≤ 16777216 := by omega
  have key : (eFrz (nLc (iSeq (eCall F_lines_of (aCons (eV 0) (aCons (eV 1) (aNil))))) [2] (lt1_hand_text) (bYes) (lf1_hand_text))) [some (.val pl), some (.val hd), none] T = .ok (.lst (ls.map fun l => tx (l ++ [10]))) T := by
    simp [lo, a2, q]
  have z := join_text key ok hn
  simp [F_hand_text, fnOf, g_hand_text, wp, wh, z, -c_eJoin]
theorem hrows_len {ow : List Int} {rows : List (List Mv)} {many : Nat} {tk : List (List (Option Nat))} {nx : List (List Nat)} {L : Int} (P : PlOk L ow rows) (H : HOk ow rows many tk nx) (hm : many ≤ 60) : (hrows tk nx).length ≤ 300 * 60 := by
  have h200 := mvs_le P
  have h24 := P.n24
  have hl := P.len
  have key : ∀ l : List Nat, (∀ m ∈ l, m < many) → (l.flatMap (hR tk nx)).length ≤ 300 * l.length := by
    intro l
    induction l with
    | nil => intro _; simp
    | cons m l ih =>
      intro h
      have h1 := ih fun x hx => h x (by simp [hx])
      have h2 := h m (by simp)
      have hm1 : m < tk.length := by rw [H.lt]; exact h2
      have hm2 : m < nx.length := by rw [H.ln]; exact h2
      have g1 := hT_len m tk[m]
      have g2 := hN_len m nx[m]
      have l1 := H.tl _ (List.getElem_mem hm1)
      have l2 := H.nl _ (List.getElem_mem hm2)
      have eR : hR tk nx m = hT m tk[m] ++ hN m nx[m] := by rw [hR, List.getElem?_eq_getElem hm1, List.getElem?_eq_getElem hm2]; rfl
      rw [List.flatMap_cons, List.length_append, eR, List.length_append, List.length_cons, Nat.mul_add]
      omega
  have := key (List.range tk.length) fun m hm => by rw [← H.lt]; exact List.mem_range.mp hm
  rw [List.length_range, H.lt] at this
  unfold hrows
  rw [H.lt]
  omega
end K75
set_option Elab.async false
set_option linter.all false
set_option maxRecDepth 100000
set_option maxHeartbeats 4000000
namespace K75
open PySem L2 DL SX
/-! ### dicts of what is told first -/
abbrev Ky := Nat × Nat
abbrev Tb := List (Ky × Nat)
def key2 (k : Ky) : List Key := [.inl (k.1 : Int), .inl (k.2 : Int)]
theorem key2_inj {k l : Ky} (h : key2 k = key2 l) : k = l := by
  obtain ⟨a, b⟩ := k
  obtain ⟨c, d⟩ := l
  simp [key2] at h
  obtain ⟨h1, h2⟩ := h
  rw [show a = c by omega, show b = d by omega]
def kvT (t : Tb) : List (List Key × D) := t.map fun e => (key2 e.1, iD e.2)
def lk (t : Tb) (k : Ky) : Option Nat := (t.find? fun e => decide (e.1 = k)).map (·.2)
theorem valD_kvT (k : Ky) : ∀ t : Tb, valD (kvT t) (key2 k) = (lk t k).map iD
  | [] => rfl
  | e :: t => by
    have ih := valD_kvT k t
    unfold valD lk kvT at *
    rw [List.map_cons]
    by_cases h : e.1 = k
    · rw [List.find?_cons_of_pos (by simp [h]), List.find?_cons_of_pos (by simp [h])]; rfl
    · rw [List.find?_cons_of_neg (by simp; exact fun e2 => h (key2_inj e2)), List.find?_cons_of_neg (by simp [h])]; exact ih
theorem putD_kvT (t : Tb) (k : Ky) (v : Nat) (h : lk t k = none) : putD (kvT t) (key2 k) (iD v) = kvT (t ++ [(k, v)]) := by
  unfold putD
  have e : ((kvT t).any fun kv => decide (kv.1 = key2 k)) = false := by
    rw [List.any_eq_false]
    intro x hx
    obtain ⟨e, he, rfl⟩ := List.mem_map.mp hx
    simp only [decide_eq_true_eq]
    intro h2
    unfold lk at h
    rw [Option.map_eq_none_iff, List.find?_eq_none] at h
    exact h e he (by simp; exact key2_inj h2)
  rw [e]
  simp [kvT]
theorem lk_snoc (t : Tb) (k l : Ky) (v : Nat) : lk (t ++ [(k, v)]) l = (lk t l).or (if k = l then some v else none) := by
  unfold lk
  rw [List.find?_append]
  cases h : t.find? fun e => decide (e.1 = l) with
  | some x => rfl
  | none => by_cases h2 : k = l <;> simp [h2]
def pf (t : Tb) (keys : List Ky) (v : Nat) : Tb := keys.foldl (fun t k => if (lk t k).isSome then t else t ++ [(k, v)]) t
theorem lk_pf (v : Nat) (l : Ky) : ∀ (keys : List Ky) (t : Tb), lk (pf t keys v) l = (lk t l).or (if l ∈ keys then some v else none)
  | [], t => by simp [pf]
  | k :: keys, t => by
    have ih := lk_pf v l keys (if (lk t k).isSome then t else t ++ [(k, v)])
    unfold pf at ih ⊢
    rw [List.foldl_cons, ih]
    by_cases h : (lk t k).isSome = true
    · rw [if_pos h]
      by_cases h2 : l = k
      · subst h2
        obtain ⟨x, hx⟩ := Option.isSome_iff_exists.mp h
        rw [hx]; rfl
      · simp only [List.mem_cons, h2, false_or]
    · rw [if_neg h, lk_snoc]
      by_cases h2 : k = l
      · subst h2
        simp
      · have h3 : ¬ l = k := fun e => h2 e.symm
        simp only [List.mem_cons, h3, false_or, if_neg h2]
        cases lk t l <;> simp
theorem pf_len (v : Nat) : ∀ (keys : List Ky) (t : Tb), (pf t keys v).length ≤ t.length + keys.length
  | [], t => by simp [pf]
  | k :: keys, t => by
    have ih := pf_len v keys (if (lk t k).isSome then t else t ++ [(k, v)])
    unfold pf at ih ⊢
    rw [List.foldl_cons]
    simp only [List.length_cons]
    split at ih <;> simp at ih ⊢ <;> simp_all <;> omega
def kD (k : Ky) : D := .tup [.int (k.1 : Int), .int (k.2 : Int)]
theorem dAt_k (t : Tb) (k : Ky) : dAt (.dT (kvT t)) (kD k) = some ((lk t k).map iD) := by
  rw [← valD_kvT]
  rfl
theorem dPut_k (t : Tb) (k : Ky) (v : Nat) (h : lk t k = none) (hl : t.length < 16777216) : dPut (.dT (kvT t)) (kD k) (iD v) = some (.dT (kvT (t ++ [(k, v)]))) := by
  rw [← putD_kvT t k v h]
  have : (kvT t).length = t.length := by simp [kvT]
  show (if (kvT t).length < sizeLine then (keysOf [.int (k.1 : Int), .int (k.2 : Int)]).map (fun q => SO.dT (putD (kvT t) q (iD v))) else none) = _
  rw [if_pos (by rw [this, sz_eq]; exact hl)]
  rfl
/-! put_first -/
theorem put_step (T : Store) (n : Nat) (ks : D) (t : Tb) (k : Ky) (v : Nat) (h : T[n]? = some (.dT (kvT t))) (hl : t.length < 16777216) :
    b1_put_first [some (.val (.loc n)), some (.val ks), some (.val (iD v)), some (.val (kD k))] T =
      .nx [some (.val (.loc n)), some (.val ks), some (.val (iD v)), none] (T.set n (.dT (kvT (if (lk t k).isSome then t else t ++ [(k, v)])))) := by
  cases e : lk t k with
  | none =>
    have h1 := dAt_k t k
    have h2 := dPut_k t k v e hl
    rw [e] at h1
    generalize kD k = kk at *
    simp [b1_put_first, h, h1, h2]
  | some x =>
    have h1 := dAt_k t k
    rw [e] at h1
    have h3 : T.set n (.dT (kvT t)) = T := by
      have hn := (List.getElem?_eq_some_iff.mp h).1
      have := (List.getElem?_eq_some_iff.mp h).2
      rw [← this]; exact List.set_getElem_self hn
    generalize kD k = kk at *
    simp [b1_put_first, h, h1, h3]
theorem put_loop (n : Nat) (ks : D) (v : Nat) : ∀ (keys : List Ky) (T : Store) (t : Tb), T[n]? = some (.dT (kvT t)) → t.length + keys.length < 16777216 →
    forL t1_put_first b1_put_first (keys.map kD) [some (.val (.loc n)), some (.val ks), some (.val (iD v)), none] T =
      .nx [some (.val (.loc n)), some (.val ks), some (.val (iD v)), none] (T.set n (.dT (kvT (pf t keys v)))) := by
  intro keys
  induction keys with
  | nil =>
    intro T t h _
    have hn := (List.getElem?_eq_some_iff.mp h).1
    have h2 := (List.getElem?_eq_some_iff.mp h).2
    simp only [List.map_nil, forL_nil, pf, List.foldl_nil]
    rw [← h2, List.set_getElem_self hn]
  | cons k keys ih =>
    intro T t h hl
    simp only [List.length_cons] at hl
    have st := put_step T n ks t k v h (by omega)
    have hn := (List.getElem?_eq_some_iff.mp h).1
    have ih' := ih (T.set n (.dT (kvT (if (lk t k).isSome then t else t ++ [(k, v)])))) (if (lk t k).isSome then t else t ++ [(k, v)]) (List.getElem?_set_self hn) (by
      split
      · omega
      · rw [List.length_append, List.length_cons, List.length_nil]; omega)
    rw [List.map_cons, forL_nx rfl st, ih', List.set_set]
    rfl
theorem put_first (T : Store) (n : Nat) (v : Nat) (keys : List Ky) (t : Tb) (h : T[n]? = some (.dT (kvT t))) (hl : t.length + keys.length < 16777216) :
    F_put_first [.loc n, .lst (keys.map kD), iD v] T = .ok .non (T.set n (.dT (kvT (pf t keys v)))) := by
  have lp := put_loop n (.lst (keys.map kD)) v keys T t h hl
  generalize keys.map kD = z at *
  generalize iD v = w at *
  simp [F_put_first, fnOf, g_put_first, lp]
/-! which memories -/
theorem mem_in (T : Store) (mem : Option Nat) (m : Nat) : oIn T (opN mem) (.tup [.non, .int (m : Int)]) = some (.bl (decide (mem = none ∨ mem = some m))) := by
  cases mem with
  | none => simp [oIn, inData, viewL, opN, flatD, vOf, inV, eqV]
  | some k =>
    have : ((m : Int) == (k : Int)) = decide (k = m) := by rw [Bool.eq_iff_iff]; simp; omega
    simp [oIn, inData, viewL, opN, flatD, vOf, inV, eqV, this]
/-! tables_of -/
def ks (many : Nat) (mem : Option Nat) (near : Nat) : List Ky := ((List.range many).filter fun m => decide (mem = none ∨ mem = some m)).map fun m => (m, near)
theorem ks_mem {many m p near : Nat} {mem : Option Nat} : (m, p) ∈ ks many mem near ↔ m < many ∧ (mem = none ∨ mem = some m) ∧ p = near := by
  unfold ks
  rw [List.mem_map]
  constructor
  · rintro ⟨a, ha, e⟩
    cases e
    rw [List.mem_filter, List.mem_range, decide_eq_true_iff] at ha
    exact ⟨ha.1, ha.2, rfl⟩
  · rintro ⟨h1, h2, rfl⟩
    exact ⟨m, List.mem_filter.mpr ⟨List.mem_range.mpr h1, by rw [decide_eq_true_iff]; exact h2⟩, rfl⟩
theorem ks_len (many near : Nat) (mem : Option Nat) : (ks many mem near).length ≤ many := by
  unfold ks
  rw [List.length_map]
  exact Nat.le_trans (List.length_filter_le _ _) (by simp)
def tStep (many : Nat) (go : Bool) (t : Tb) (r : Row) : Tb := if r.go = go then pf t (ks many r.mem r.near) r.far else t
def tabs (many : Nat) (go : Bool) (rs : List Row) : Tb := rs.foldl (tStep many go) []
def fits (go : Bool) (k : Ky) (r : Row) : Bool := decide (r.go = go ∧ (r.mem = none ∨ r.mem = some k.1) ∧ r.near = k.2)
def firstR (rs : List Row) (go : Bool) (k : Ky) : Option Nat := (rs.find? (fits go k)).map (·.far)
theorem lk_tabs' (many : Nat) (go : Bool) (k : Ky) (hk : k.1 < many) : ∀ (rs : List Row) (t : Tb), lk (rs.foldl (tStep many go) t) k = (lk t k).or (firstR rs go k)
  | [], t => by simp [firstR]
  | r :: rs, t => by
    have ih := lk_tabs' many go k hk rs (tStep many go t r)
    rw [List.foldl_cons, ih]
    have e : firstR (r :: rs) go k = (if fits go k r then some r.far else none).or (firstR rs go k) := by
      unfold firstR
      by_cases h : fits go k r = true
      · rw [List.find?_cons_of_pos h, if_pos h]; rfl
      · rw [List.find?_cons_of_neg h, if_neg h]; rfl
    have e2 : lk (tStep many go t r) k = (lk t k).or (if fits go k r then some r.far else none) := by
      unfold tStep
      by_cases hg : r.go = go
      · rw [if_pos hg, lk_pf]
        have : (k ∈ ks many r.mem r.near) ↔ fits go k r = true := by
          obtain ⟨m, p⟩ := k
          rw [ks_mem, fits, decide_eq_true_iff]
          simp only at hk
          constructor
          · rintro ⟨_, h1, h2⟩; exact ⟨hg, h1, h2.symm⟩
          · rintro ⟨_, h1, h2⟩; exact ⟨hk, h1, h2.symm⟩
        simp only [this]
      · have : fits go k r = false := by rw [fits, decide_eq_false_iff_not]; exact fun h => hg h.1
        rw [if_neg hg, this]; simp
    rw [e, e2, Option.or_assoc]
theorem lk_tabs {many : Nat} {go : Bool} {k : Ky} (hk : k.1 < many) (rs : List Row) : lk (tabs many go rs) k = firstR rs go k := by
  unfold tabs
  rw [lk_tabs' many go k hk]
  simp [lk]
theorem tStep_len (many : Nat) (go : Bool) (t : Tb) (r : Row) : (tStep many go t r).length ≤ t.length + many := by
  unfold tStep
  split
  · have := pf_len r.far (ks many r.mem r.near) t; have := ks_len many r.near r.mem; omega
  · omega
/-- a read row -/
def rowP (r : Row) : D := rowN (some r)
theorem keys_lc (T : Store) (many : Nat) (mem : Option Nat) (near : Nat) (Γ : Gm) (y0 y1 y2 y3 y4 y5 y8 y9 : Option Sl) (e : Γ = [y0, y1, y2, y3, y4, y5, some (.val (opN mem)), some (.val (.int (near : Int))), y8, y9, none]) :
    lcL lt1_tables_of lc1_tables_of lf1_tables_of Γ ((List.range many).map iD) T = .ok ((ks many mem near).map kD) T := by
  have := lcL_ok (t := lt1_tables_of) (c := lc1_tables_of) (f := lf1_tables_of) (Γ := Γ) (S := T) iD (fun m => decide (mem = none ∨ mem = some m)) (fun m => kD (m, near)) (List.range many)
    (fun m _ => by
      have h := mem_in T mem m
      subst e
      generalize opN mem = q at *
      simp [lt1_tables_of, lc1_tables_of, iD, h])
    (fun m _ _ => by subst e; simp [lt1_tables_of, lf1_tables_of, iD, kD])
  rw [this, ks, List.map_map]
  rfl
end K75
set_option Elab.async false
set_option linter.all false
set_option maxRecDepth 100000
set_option maxHeartbeats 4000000
namespace K75
open PySem L2 DL SX
theorem tb_core (T T1 : Store) (x0 x2 : Option Sl) (n : Int) (zs kd : List D) (a b : D) (w : PySem.Str) (mem near far : D) (g : Bool) (rg : rangeD [.int n] = some zs) (hz : zs.length ≤ 16777216) (q : (w = "at") = (g = true))
    (lc : ∀ y9, lcL lt1_tables_of lc1_tables_of lf1_tables_of [x0, some (.val (.int n)), x2, some (.val a), some (.val b), some (.val (.str w)), some (.val mem), some (.val near), some (.val far), y9, none] zs T = .ok kd T)
    (pf : F_put_first [if g then a else b, .lst kd, far] T = .ok .non T1) :
    (t1_tables_of.run (.tup [.str w, mem, near, far]) [x0, some (.val (.int n)), x2, some (.val a), some (.val b), none, none, none, none, none, none]).elim .no (fun Γ => b1_tables_of Γ T) =
      .nx [x0, some (.val (.int n)), x2, some (.val a), some (.val b), none, none, none, none, none, none] T1 := by
  cases g with
  | true => simp only [if_true] at pf; simp [t1_tables_of, b1_tables_of, rg, hz, lc, q, pf]
  | false => simp only [Bool.false_eq_true, if_false] at pf; simp [t1_tables_of, b1_tables_of, rg, hz, lc, q, pf]
theorem iD_len (n : Nat) : ((List.range n).map iD).length = n := by simp
theorem tb_step (T : Store) (x0 x2 : Option Sl) (many : Nat) (hm : many ≤ 1000) (ta tb : Tb) (h1 : ta.length < 10000000) (h2 : tb.length < 10000000) (r : Row) :
    (t1_tables_of.run (rowP r) [x0, some (.val (.int (many : Nat))), x2, some (.val (.loc T.length)), some (.val (.loc (T.length + 1))), none, none, none, none, none, none]).elim .no (fun Γ => b1_tables_of Γ (T ++ [.dT (kvT ta), .dT (kvT tb)])) =
      .nx [x0, some (.val (.int (many : Nat))), x2, some (.val (.loc T.length)), some (.val (.loc (T.length + 1))), none, none, none, none, none, none] (T ++ [.dT (kvT (tStep many false ta r)), .dT (kvT (tStep many true tb r))]) := by
  have kl := ks_len many r.near r.mem
  have e0 : (T ++ [SO.dT (kvT ta), .dT (kvT tb)])[T.length]? = some (.dT (kvT ta)) := by simp
  have e1 : (T ++ [SO.dT (kvT ta), .dT (kvT tb)])[T.length + 1]? = some (.dT (kvT tb)) := by
    rw [List.getElem?_append_right (by omega)]
    simp
  have rg := rgN (n := many) (by omega)
  have hq : (S (if r.go then wAfter else wAt) = "at") = ((!r.go) = true) := by
    rw [l_at, S_eq_iff]
    cases r.go
    · simp
    · simp; decide
  have hlc := fun y9 => keys_lc (T ++ [.dT (kvT ta), .dT (kvT tb)]) many r.mem r.near [x0, some (.val (.int (many : Nat))), x2, some (.val (.loc T.length)), some (.val (.loc (T.length + 1))), some (.val (tx (if r.go then wAfter else wAt))), some (.val (opN r.mem)), some (.val (.int (r.near : Int))), some (.val (.int (r.far : Int))), y9, none] _ _ _ _ _ _ _ y9 rfl
  have hp : F_put_first [if (!r.go) = true then .loc T.length else .loc (T.length + 1), .lst ((ks many r.mem r.near).map kD), .int (r.far : Int)] (T ++ [.dT (kvT ta), .dT (kvT tb)]) = .ok .non (T ++ [.dT (kvT (tStep many false ta r)), .dT (kvT (tStep many true tb r))]) := by
    cases hg : r.go with
    | false =>
      have := put_first (T ++ [.dT (kvT ta), .dT (kvT tb)]) T.length r.far (ks many r.mem r.near) ta e0 (by omega)
      have es : (T ++ [SO.dT (kvT ta), .dT (kvT tb)]).set T.length (.dT (kvT (pf ta (ks many r.mem r.near) r.far))) = T ++ [.dT (kvT (tStep many false ta r)), .dT (kvT (tStep many true tb r))] := by
        rw [List.set_append_right _ _ (by omega)]
        simp [tStep, hg]
      rw [← es]
      exact this
    | true =>
      have := put_first (T ++ [.dT (kvT ta), .dT (kvT tb)]) (T.length + 1) r.far (ks many r.mem r.near) tb e1 (by omega)
      have es : (T ++ [SO.dT (kvT ta), .dT (kvT tb)]).set (T.length + 1) (.dT (kvT (pf tb (ks many r.mem r.near) r.far))) = T ++ [.dT (kvT (tStep many false ta r)), .dT (kvT (tStep many true tb r))] := by
        rw [List.set_append_right _ _ (by omega)]
        simp [tStep, hg]
      rw [← es]
      exact this
  have er : rowP r = .tup [tx (if r.go then wAfter else wAt), opN r.mem, .int (r.near : Int), .int (r.far : Int)] := rfl
  have hz : ((List.range many).map iD).length ≤ 16777216 := by rw [iD_len]; omega
  rw [er]
  generalize (List.range many).map iD = zs at *
  generalize (ks many r.mem r.near).map kD = kd at *
  generalize T ++ [SO.dT (kvT ta), .dT (kvT tb)] = T' at *
  generalize T ++ [SO.dT (kvT (tStep many false ta r)), .dT (kvT (tStep many true tb r))] = T1 at *
  generalize ((many : Nat) : Int) = n at *
  generalize (r.far : Int) = far at *
  generalize (r.near : Int) = near at *
  exact tb_core T' T1 x0 x2 n zs kd (.loc T.length) (.loc (T.length + 1)) (S (if r.go then wAfter else wAt)) (opN r.mem) (.int near) (.int far) (!r.go) rg hz hq hlc hp
theorem tb_loop (T : Store) (x0 x2 : Option Sl) (many : Nat) (hm : many ≤ 1000) : ∀ (rs : List Row) (ta tb : Tb), ta.length + 1000 * rs.length < 10000000 → tb.length + 1000 * rs.length < 10000000 →
    forL t1_tables_of b1_tables_of (rs.map rowP) [x0, some (.val (.int (many : Nat))), x2, some (.val (.loc T.length)), some (.val (.loc (T.length + 1))), none, none, none, none, none, none] (T ++ [.dT (kvT ta), .dT (kvT tb)]) =
      .nx [x0, some (.val (.int (many : Nat))), x2, some (.val (.loc T.length)), some (.val (.loc (T.length + 1))), none, none, none, none, none, none] (T ++ [.dT (kvT (rs.foldl (tStep many false) ta)), .dT (kvT (rs.foldl (tStep many true) tb))]) := by
  intro rs
  induction rs with
  | nil => intro ta tb _ _; rfl
  | cons r rs ih =>
    intro ta tb h1 h2
    simp only [List.length_cons, Nat.mul_add] at h1 h2
    have st := tb_step T x0 x2 many hm ta tb (by omega) (by omega) r
    have q1 := tStep_len many false ta r
    have q2 := tStep_len many true tb r
    have ih' := ih (tStep many false ta r) (tStep many true tb r) (by omega) (by omega)
    rw [List.map_cons]
    cases e : t1_tables_of.run (rowP r) [x0, some (.val (.int (many : Nat))), x2, some (.val (.loc T.length)), some (.val (.loc (T.length + 1))), none, none, none, none, none, none] with
    | none => rw [e] at st; cases st
    | some Γ1 =>
      rw [e] at st
      rw [forL_nx e st, ih']
      rfl
theorem tables_core (T T1 : Store) (pl n : D) (rs : List D) (lp : forL t1_tables_of b1_tables_of rs [some (.val pl), some (.val n), some (.val (.lst rs)), some (.val (.loc T.length)), some (.val (.loc (T.length + 1))), none, none, none, none, none, none] (T ++ [.dT [], .dT []]) =
      .nx [some (.val pl), some (.val n), some (.val (.lst rs)), some (.val (.loc T.length)), some (.val (.loc (T.length + 1))), none, none, none, none, none, none] T1) :
    F_tables_of [pl, n, .lst rs] T = .ok (.tup [.loc T.length, .loc (T.length + 1)]) T1 := by
  have e : T ++ [SO.dT []] ++ [SO.dT []] = T ++ [SO.dT [], SO.dT []] := by simp
  have hl : (T ++ [SO.dT []]).length = T.length + 1 := by simp
  simp [F_tables_of, fnOf, g_tables_of, setM, e, hl, lp]
theorem tables_of (T : Store) (pl : D) (many : Nat) (rs : List Row) (hm : many ≤ 1000) (hr : rs.length < 5000) :
    F_tables_of [pl, .int many, .lst (rs.map rowP)] T = .ok (.tup [.loc T.length, .loc (T.length + 1)]) (T ++ [.dT (kvT (tabs many false rs)), .dT (kvT (tabs many true rs))]) := by
  have lp := tb_loop T (some (.val pl)) (some (.val (.lst (rs.map rowP)))) many hm rs [] [] (by simp; omega) (by simp; omega)
  exact tables_core T _ pl (.int many) (rs.map rowP) lp
end K75
set_option Elab.async false
set_option linter.all false
set_option maxRecDepth 100000
set_option maxHeartbeats 4000000
namespace K75
open PySem L2 DL SX
/-! ### hand_in -/
def hi11 : Es := sSeq (sIf (bNot (toB (eV 3))) (sRaise1 "BadText" "line" (aCons (eBin2 oSub (eFn bLen (aCons (eVb 2) (aNil))) (eC (.int 1))) (aNil))) (sNx)) (sSeq (sSet 8 (eFrz (nLc (iRange (aCons (eV 4) (aNil))) [12] (lt4_hand_in) (bYes) (lf4_hand_in)))) (sSeq (sNew 13 (nLst (aNil))) (sSeq (sFor (iRange (aCons (eV 4) (aNil))) (t3_hand_in) (b3_hand_in)) (sSeq (sFz 13) (sSeq (sKill [12]) (sRt (eTup (aCons (eC (.str "hand")) (aCons (eFn bTup (aCons (eVb 8) (aNil))) (aCons (eFn bTup (aCons (eVb 13) (aNil))) (aNil)))))))))))
def hi9 : Es := sSeq (sFor (iRange (aCons (eV 4) (aNil))) (t2_hand_in) (b2_hand_in)) (sSeq (sKill [12]) hi11)
def hi6 : Es := sSeq (sFz 5) (sSeq (sKill [6, 7, 8]) (sSeq (sUnp (gT 2 (gConsR (gV 9) (gConsR (gV 10) (gNilR))) ((gV 9).ix ++ ((gV 10).ix ++ []))) (eCall F_tables_of (aCons (eV 0) (aCons (eV 4) (aCons (eV 5) (aNil)))))) (sSeq (sSet 11 (eFrz (nLc (iVia enumOf (aCons (eBin2 oIx (eVb 0) (eC (.int 2))) (aNil))) [14, 15] (lt1_hand_in) (lc1_hand_in) (lf1_hand_in)))) hi9)))
def hi5 : Es := sSeq (sIf (toB (eBin2 oIsN (eVb 4) (eC .non))) (sRaise1 "BadText" "line" (aCons (eC (.int 0)) (aNil))) (sNx)) (sSeq (sFor (iVia enumOf (aCons (eSl (eVb 2) (pAt (eC (.int 1))) (pNo)) (aNil))) (t1_hand_in) (b1_hand_in)) hi6)
theorem g_hand_eq : g_hand_in = sSeq (sSet 2 (eSplit (eV 1) (eC (.str "\n")))) (sSeq (sPar [3, 2] (mVal (eBin2 oEq (eBin2 oIx (eVb 2) (eNeg (eC (.int 1)))) (eC (.str ""))) (mVal (eIf (toB (eBin2 oNe (eBin2 oIx (eVb 2) (eNeg (eC (.int 1)))) (eC (.str "")))) (eV 2) (eSl (eVb 2) (pNo) (pAt (eNeg (eC (.int 1)))))) (mNil)))) (sSeq (sPar [4, 5] (mVal (eIf (toB (eBin2 oNe (eVb 2) (eFrz (nLst (aNil))))) (eCall F_memories_in (aCons (eBin2 oIx (eVb 2) (eC (.int 0))) (aNil))) (eC .non)) (mNew (nLst (aNil)) (mNil)))) hi5)) := rfl

theorem atI_last {α : Type} (l : List α) (a : α) : L2.atI (l ++ [a]) (-1) = some a := by
  have h : L2.ixN (l ++ [a]).length (-1) = some l.length := by
    unfold L2.ixN
    simp
    omega
  unfold L2.atI
  rw [h]
  simp
theorem cutD_last (l : List D) (a : D) : cutD (l ++ [a]) none (some (-1)) = l := by
  have h1 : HT.sIx (l ++ [a]).length (l ++ [a]).length (some (-1)) = l.length := by
    unfold HT.sIx
    simp
    omega
  have h0 : HT.sIx (l ++ [a]).length 0 none = 0 := rfl
  unfold cutD
  rw [h0, h1]
  simp
theorem pySL_tx (T : Store) : ∀ l : List (List Nat), pySL T (l.map tx) = some (l.map fun x => .str (S x))
  | [] => by simp [pySL]
  | a :: l => by simp [pySL, pyS, pySL_tx T l]
theorem canLay_tx : ∀ l : List (List Nat), (∀ x ∈ l, Good x) → PyData.canLayAll0 (l.map fun x => PyData.str (S x)) = true ∧ PyData.depthAll (l.map fun x => PyData.str (S x)) = 0
  | [], _ => by simp [PyData.canLayAll0, PyData.depthAll]
  | a :: l, h => by
    obtain ⟨h1, h2⟩ := canLay_tx l fun x hx => h x (by simp [hx])
    have h3 := good_str (h a (by simp))
    simp [PyData.canLayAll0, PyData.canLay0, PyData.depthAll, PyData.depth, h1, h2, h3]
theorem eq_nil (T : Store) (ds : List D) (ps : List PyData) (h : pySL T ds = some ps) (h1 : PyData.canLayAll0 ps = true) (h2 : PyData.depthAll ps ≤ 60) : eqData T (.lst ds) (.lst []) = some ds.isEmpty := by
  have e1 : pyS T (.lst ds) = some (.list ps) := by simp [pyS, h]
  have e2 : pyS T (.lst []) = some (.list []) := by simp [pyS, pySL]
  have s1 : SeqAt.shaped (.list ps) = true := by simp [SeqAt.shaped, PyData.canLay0, PyData.depth, h1]; omega
  have s2 : SeqAt.shaped (.list []) = true := by simp [SeqAt.shaped, PyData.canLay0, PyData.canLayAll0, PyData.depth, PyData.depthAll]
  have e3 : eqData T (.lst ds) (.lst []) = (match pyS T (.lst ds), pyS T (.lst []) with | some p, some q => if SeqAt.shaped p && SeqAt.shaped q then some (PyData.eqv p q) else none | _, _ => none) := rfl
  rw [e3, e1, e2]
  simp only [s1, s2, Bool.and_self, if_true]
  congr 1
  cases ds with
  | nil => simp [pySL] at h; subst h; rfl
  | cons d ds =>
    cases ps with
    | nil =>
      simp only [pySL] at h
      split at h
      · simp at h
      · cases h
    | cons p ps => simp [PyData.eqv, PyData.eqvAll]
theorem ne_nil (T : Store) (l : List (List Nat)) (h : ∀ x ∈ l, Good x) : oNe T (.lst (l.map tx)) (.lst []) = some (.bl (!l.isEmpty)) := by
  obtain ⟨h1, h2⟩ := canLay_tx l h
  unfold oNe
  rw [eq_nil T _ _ (pySL_tx T l) h1 (by omega)]
  simp
/-- the state behind the first line -/
def hiG (pl txt : D) (ll : List (List Nat)) (e : Bool) (mm : Option Nat) : Gm := [some (.val pl), some (.val txt), some (.val (.lst (ll.map tx))), some (.val (.bl e)), some (.val (opN mm)), some (.own (.lst [])), none, none, none, none, none, none, none, none, none, none, none]
def hi0 (pl txt : D) : Gm := [some (.val pl), some (.val txt), none, none, none, none, none, none, none, none, none, none, none, none, none, none, none]
def lns (ini : List (List Nat)) (last : List Nat) : List (List Nat) := if last = [] then ini else ini ++ [last]
def mmOf (ll : List (List Nat)) : Option Nat := match ll with | [] => none | l :: _ => MIw (spl 32 l)
theorem hi_head_core (T : Store) (pl txt : D) (ini : List D) (last : PySem.Str) (e k : Bool) (ll : List D) (mm : Option Nat)
    (hs : eSplit (eV 1) (eC (.str "\n")) (hi0 pl txt) T = .ok (.lst (ini ++ [.str last])) T) (he : (last = "") = (e = true)) (hll : ll = if e then ini else ini ++ [.str last])
    (hk : oNe T (.lst ll) (.lst []) = some (.bl k)) (hm : k = true → ∃ l0, oIx T (.lst ll) (.int 0) = some l0 ∧ F_memories_in [l0] T = .ok (opN mm) T) (hm0 : k = false → mm = none) :
    g_hand_in (hi0 pl txt) T = hi5 [some (.val pl), some (.val txt), some (.val (.lst ll)), some (.val (.bl e)), some (.val (opN mm)), some (.own (.lst [])), none, none, none, none, none, none, none, none, none, none, none] T := by
  have ha := atI_last ini (D.str last)
  have hc := cutD_last ini (.str last)
  simp only [hi0] at hs
  generalize ini ++ [D.str last] = LD at *
  subst hll
  cases e with
  | true =>
    simp only [if_true] at hk hm
    cases k with
    | true =>
      obtain ⟨l0, h1, h2⟩ := hm rfl
      rw [o_ixL] at h1
      simp [g_hand_eq, hi0, hs, ha, hc, he, hk, h1, h2, setM, -c_eSplit]
    | false =>
      obtain rfl := hm0 rfl
      simp [g_hand_eq, hi0, hs, ha, hc, he, hk, setM, opN, -c_eSplit]
  | false =>
    simp only [Bool.false_eq_true, if_false] at hk hm
    cases k with
    | true =>
      obtain ⟨l0, h1, h2⟩ := hm rfl
      rw [o_ixL] at h1
      simp [g_hand_eq, hi0, hs, ha, hc, he, hk, h1, h2, setM, -c_eSplit]
    | false =>
      obtain rfl := hm0 rfl
      simp [g_hand_eq, hi0, hs, ha, hc, he, hk, setM, opN, -c_eSplit]
theorem hi_head (T : Store) (pl : D) (txt : List Nat) (ini : List (List Nat)) (last : List Nat) (g : Good txt) (hs : spl 10 txt = ini ++ [last]) :
    g_hand_in (hi0 pl (tx txt)) T = hi5 (hiG pl (tx txt) (lns ini last) (decide (last = [])) (mmOf (lns ini last))) T := by
  have gw : ∀ w ∈ ini ++ [last], Good w := fun w hw => good_spl g (by rw [hs]; exact hw)
  have gl : ∀ w ∈ lns ini last, Good w := fun w hw => by
    unfold lns at hw
    split at hw
    · exact gw w (by simp [hw])
    · exact gw w hw
  have hne := ne_nil T (lns ini last) gl
  have sp := eSplit_S (f := eV 1) (g := eC (.str "\n")) (Γ := hi0 pl (tx txt)) (T := T) (T1 := T) (T2 := T) (l := txt) (c := 10) rfl (by rw [l_nl]; rfl) g.1 (by decide)
  rw [hs, List.map_append] at sp
  refine hi_head_core T pl (tx txt) (ini.map tx) (S last) (decide (last = [])) (!(lns ini last).isEmpty) ((lns ini last).map tx) (mmOf (lns ini last)) sp ?_ ?_ hne ?_ ?_
  · rw [l_no, S_eq_iff]; simp
  · unfold lns
    by_cases h : last = [] <;> simp [h]
  · intro h
    cases e : lns ini last with
    | nil => rw [e] at h; simp at h
    | cons l ls =>
      refine ⟨tx l, by rw [o_ixL]; exact atI_0 _ _, ?_⟩
      exact memories_in l T (gl l (by rw [e]; simp))
  · intro h
    cases e : lns ini last with
    | nil => rfl
    | cons l ls => rw [e] at h; simp at h
end K75
set_option Elab.async false
set_option linter.all false
set_option maxRecDepth 100000
set_option maxHeartbeats 4000000
namespace K75
open PySem L2 DL SX
theorem forL_append {t : Tgt} {b : Es} : ∀ {ds es : List D} {Γ Γ1 : Gm} {S S1 : Store}, forL t b ds Γ S = .nx Γ1 S1 → (∀ d ∈ ds, ∀ Γ S Γ2 S2, b Γ S ≠ .bk Γ2 S2) → forL t b (ds ++ es) Γ S = forL t b es Γ1 S1
  | [], es, Γ, Γ1, S, S1, h, _ => by cases h; rfl
  | d :: ds, es, Γ, Γ1, S, S1, h, hb => by
    have hb' : ∀ d ∈ ds, ∀ Γ S Γ2 S2, b Γ S ≠ .bk Γ2 S2 := fun d hd => hb d (by simp [hd])
    rw [List.cons_append]
    rw [forL] at h ⊢
    cases e : t.run d Γ with
    | none => rw [e] at h; cases h
    | some Γ' =>
      rw [e] at h
      simp only at h ⊢
      cases e2 : b Γ' S with
      | nx Γ2 S2 => rw [e2] at h; exact forL_append h hb'
      | ct Γ2 S2 => rw [e2] at h; exact forL_append h hb'
      | bk Γ2 S2 => exact absurd e2 (hb d (by simp) _ _ _ _)
      | rt v S2 => rw [e2] at h; cases h
      | ex C fs Γ2 S2 => rw [e2] at h; cases h
      | no => rw [e2] at h; cases h
theorem forL_ex {t : Tgt} {b : Es} {d : D} {ds : List D} {Γ Γ1 Γ2 : Gm} {S S2 : Store} {C : PySem.Str} {fs : List (PySem.Str × D)} (h1 : t.run d Γ = some Γ1) (h2 : b Γ1 S = .ex C fs Γ2 S2) : forL t b (d :: ds) Γ S = .ex C fs Γ2 S2 := by
  rw [forL]; simp only [h1, h2]
/-- many lines in, rows -/
def hiR (pl txt lsD eD mD : D) (acc : List D) : Gm := [some (.val pl), some (.val txt), some (.val lsD), some (.val eD), some (.val mD), some (.own (.lst acc)), none, none, none, none, none, none, none, none, none, none, none]
theorem hi_row (T : Store) (pl txt lsD eD mD : D) (acc : List D) (l : D) (i : Int) (r : Row) (h : F_line_in [pl, mD, l] T = .ok (rowP r) T) (ha : acc.length < 16777216) :
    (t1_hand_in.run (.tup [.int i, l]) (hiR pl txt lsD eD mD acc)).elim .no (fun Γ => b1_hand_in Γ T) = .nx (hiR pl txt lsD eD mD (acc ++ [rowP r])) T := by
  simp only [rowP, rowN] at h ⊢
  simp [t1_hand_in, b1_hand_in, hiR, h, ha]
theorem hi_bad (T : Store) (pl txt lsD eD mD : D) (acc : List D) (l : D) (i : Int) (h : F_line_in [pl, mD, l] T = .ok .non T) :
    ∃ Γ', (t1_hand_in.run (.tup [.int i, l]) (hiR pl txt lsD eD mD acc)).elim .no (fun Γ => b1_hand_in Γ T) = .ex "BadText" [("line", .int (i + 1))] Γ' T := by
  simp [t1_hand_in, b1_hand_in, hiR, h]
def lnD (p : List Nat × Nat) : D := .tup [.int (p.2 : Int), tx p.1]
section
variable {L : Int} {ow : List Int} {rows : List (List Mv)} (hl : ow.length = rows.length) (hm : (mvs rows).length ≤ 16777216) (many : Nat) (txt lsD eD : D) (T : Store)
include hl hm
theorem hi_loop : ∀ (l : List (List Nat × Nat)) (rs : List Row) (acc : List D), l.map (fun p => LIw ow rows many (spl 32 p.1)) = rs.map some → (∀ p ∈ l, Good p.1) → acc.length + l.length < 16777216 →
    forL t1_hand_in b1_hand_in (l.map lnD) (hiR (plD L ow rows) txt lsD eD (.int many) acc) T = .nx (hiR (plD L ow rows) txt lsD eD (.int many) (acc ++ rs.map rowP)) T := by
  intro l
  induction l with
  | nil =>
    intro rs acc h _ _
    cases rs with
    | nil => simp
    | cons r rs => simp at h
  | cons p l ih =>
    intro rs acc h g ha
    cases rs with
    | nil => simp at h
    | cons r rs =>
      simp only [List.map_cons, List.cons.injEq] at h
      simp only [List.length_cons] at ha
      have li := line_in (L := L) hl hm many p.1 T (g p (by simp))
      rw [h.1] at li
      have st := hi_row T (plD L ow rows) txt lsD eD (.int many) acc (tx p.1) p.2 r li (by omega)
      have ih' := ih rs (acc ++ [rowP r]) h.2 (fun q hq => g q (by simp [hq])) (by simp; omega)
      rw [List.map_cons]
      cases e : t1_hand_in.run (lnD p) (hiR (plD L ow rows) txt lsD eD (.int many) acc) with
      | none => unfold lnD at e; rw [e] at st; cases st
      | some Γ1 =>
        have e' := e
        unfold lnD at e'
        rw [e'] at st
        rw [forL_nx e st, ih']
        simp
theorem hi_loop_bad : ∀ (l : List (List Nat × Nat)) (rs : List Row) (acc : List D) (b : List Nat × Nat) (rest : List (List Nat × Nat)), l.map (fun p => LIw ow rows many (spl 32 p.1)) = rs.map some → LIw ow rows many (spl 32 b.1) = none → (∀ p ∈ l, Good p.1) → Good b.1 → acc.length + l.length < 16777216 →
    ∃ Γ', forL t1_hand_in b1_hand_in ((l ++ b :: rest).map lnD) (hiR (plD L ow rows) txt lsD eD (.int many) acc) T = .ex "BadText" [("line", .int ((b.2 : Int) + 1))] Γ' T := by
  intro l
  induction l with
  | nil =>
    intro rs acc b rest h hb _ gb _
    have li := line_in (L := L) hl hm many b.1 T gb
    rw [hb] at li
    obtain ⟨Γ', st⟩ := hi_bad T (plD L ow rows) txt lsD eD (.int many) acc (tx b.1) b.2 li
    refine ⟨Γ', ?_⟩
    rw [List.nil_append, List.map_cons]
    cases e : t1_hand_in.run (lnD b) (hiR (plD L ow rows) txt lsD eD (.int many) acc) with
    | none => unfold lnD at e; rw [e] at st; cases st
    | some Γ1 =>
      have e' := e
      unfold lnD at e'
      rw [e'] at st
      exact forL_ex e st
  | cons p l ih =>
    intro rs acc b rest h hb g gb ha
    cases rs with
    | nil => simp at h
    | cons r rs =>
      simp only [List.map_cons, List.cons.injEq] at h
      simp only [List.length_cons] at ha
      have li := line_in (L := L) hl hm many p.1 T (g p (by simp))
      rw [h.1] at li
      have st := hi_row T (plD L ow rows) txt lsD eD (.int many) acc (tx p.1) p.2 r li (by omega)
      obtain ⟨Γ', ih'⟩ := ih rs (acc ++ [rowP r]) b rest h.2 hb (fun q hq => g q (by simp [hq])) gb (by simp; omega)
      refine ⟨Γ', ?_⟩
      rw [List.cons_append, List.map_cons]
      cases e : t1_hand_in.run (lnD p) (hiR (plD L ow rows) txt lsD eD (.int many) acc) with
      | none => unfold lnD at e; rw [e] at st; cases st
      | some Γ1 =>
        have e' := e
        unfold lnD at e'
        rw [e'] at st
        rw [forL_nx e st, ih']
end
theorem hi5_none (T : Store) (pl txt lsD eD : D) : hi5 (hiR pl txt lsD eD .non []) T = .ex "BadText" [("line", .int 0)] (hiR pl txt lsD eD .non []) T := by
  simp [hi5, hiR]
theorem hi5_bad (T : Store) (pl txt eD : D) (n : Int) (ll zs : List D) (he : enumD ll.tail = zs) (C : PySem.Str) (fs : List (PySem.Str × D)) (Γ' : Gm)
    (lp : forL t1_hand_in b1_hand_in zs (hiR pl txt (.lst ll) eD (.int n) []) T = .ex C fs Γ' T) : hi5 (hiR pl txt (.lst ll) eD (.int n) []) T = .ex C fs Γ' T := by
  simp only [hiR] at lp ⊢
  simp [hi5, he, lp]
theorem hi5_ok (T : Store) (pl txt eD : D) (n : Int) (ll zs : List D) (he : enumD ll.tail = zs) (rs : List D)
    (lp : forL t1_hand_in b1_hand_in zs (hiR pl txt (.lst ll) eD (.int n) []) T = .nx (hiR pl txt (.lst ll) eD (.int n) rs) T) : hi5 (hiR pl txt (.lst ll) eD (.int n) []) T = hi6 (hiR pl txt (.lst ll) eD (.int n) rs) T := by
  simp only [hiR] at lp ⊢
  simp [hi5, he, lp]
end K75
set_option Elab.async false
set_option linter.all false
set_option maxRecDepth 100000
set_option maxHeartbeats 4000000
namespace K75
open PySem L2 DL SX
/-! ### behind the rows -/
def ownP (ow : List Int) : List Nat := (ow.zipIdx.filter fun p => decide (p.1 = 0)).map (·.2)
def owE (ow : List Int) : List D := ow.zipIdx.map fun p => .tup [.int (p.2 : Int), .int p.1]
theorem enum_ow (ow : List Int) : enumD (ow.map .int) = owE ow := by rw [enumD_eq, enumF_map]; rfl
theorem ownP_mem {ow : List Int} {p : Nat} : p ∈ ownP ow ↔ ow[p]? = some 0 := by
  unfold ownP
  rw [List.mem_map]
  constructor
  · rintro ⟨⟨o, i⟩, h, rfl⟩
    rw [List.mem_filter, decide_eq_true_iff] at h
    have := zipIdx_mem h.1
    simp only at this h ⊢
    rw [this, h.2]
  · intro h
    refine ⟨(0, p), List.mem_filter.mpr ⟨?_, by simp⟩, rfl⟩
    rw [List.mem_zipIdx_iff_getElem?]
    exact h
theorem ownP_len (ow : List Int) : (ownP ow).length ≤ ow.length := by
  unfold ownP
  rw [List.length_map]
  exact Nat.le_trans (List.length_filter_le _ _) (by simp)
def hi9G (pl txt lsD eD mD rsD ownD : D) (n : Nat) : Gm := [some (.val pl), some (.val txt), some (.val lsD), some (.val eD), some (.val mD), some (.val rsD), none, none, none, some (.val (.loc n)), some (.val (.loc (n + 1))), some (.val ownD), none, none, none, none, none]
theorem own_lc (T : Store) (ow : List Int) (Γ : Gm) (hΓ : Γ.length = 17) : lcL lt1_hand_in lc1_hand_in lf1_hand_in Γ (owE ow) T = .ok ((ownP ow).map iD) T := by
  have := lcL_ok (t := lt1_hand_in) (c := lc1_hand_in) (f := lf1_hand_in) (Γ := Γ) (S := T) (fun p : Int × Nat => .tup [.int (p.2 : Int), .int p.1]) (fun p => decide (p.1 = 0)) (fun p => iD p.2) ow.zipIdx
    (fun p _ => by simp [lt1_hand_in, lc1_hand_in, hΓ])
    (fun p _ _ => by simp [lt1_hand_in, lf1_hand_in, iD, hΓ])
  rw [owE, this, ownP, List.map_map]
  rfl
theorem hi6_core (T T2 : Store) (pl txt lsD eD mD : D) (rs owl : List D) (oe : List D) (own : List D) (n : Nat) (ho : oIx T2 pl (.int 2) = some (.tup owl)) (he : enumD owl = oe) (hz : oe.length ≤ 16777216)
    (ht : F_tables_of [pl, mD, .lst rs] T = .ok (.tup [.loc n, .loc (n + 1)]) T2) (lc : ∀ Γ : Gm, Γ.length = 17 → lcL lt1_hand_in lc1_hand_in lf1_hand_in Γ oe T2 = .ok own T2) :
    hi6 (hiR pl txt lsD eD mD rs) T = hi9 (hi9G pl txt lsD eD mD (.lst rs) (.lst own) n) T2 := by
  simp [hi6, hiR, hi9G, ht, ho, he, hz, lc]
def own_all (t : Tb) (own : List Nat) (m : Nat) : Bool := own.all fun p => (lk t (m, p)).isSome
theorem has_lc (T : Store) (t : Tb) (n m : Nat) (h : T[n]? = some (.dT (kvT t))) (own : List Nat) (Γ : Gm) (y0 y1 y2 y3 y4 y5 y6 y7 y8 y10 y11 y13 y15 y16 : Option Sl) (e : Γ = [y0, y1, y2, y3, y4, y5, y6, y7, y8, some (.val (.loc n)), y10, y11, some (.val (iD m)), y13, none, y15, y16]) :
    lcL lt2_hand_in bYes lf2_hand_in Γ (own.map iD) T = .ok (own.map fun p => .bl (lk t (m, p)).isSome) T :=
  lcL_all iD (fun p => .bl (lk t (m, p)).isSome) own fun p _ => by
    have hd := dAt_k t (m, p)
    subst e
    simp only [kD] at hd
    simp [lt2_hand_in, lf2_hand_in, iD, h, hd]
theorem chk_core (T : Store) (pl txt eD mD rsD : D) (ll own : List D) (n m : Nat) (k : Bool) (bs : List Bool) (hbs : bs.all id = k) (ho : own.length ≤ 16777216) (x : List D) (hx : blsOf x = some bs) (y12 : D)
    (lc : lcL lt2_hand_in bYes lf2_hand_in [some (.val pl), some (.val txt), some (.val (.lst ll)), some (.val eD), some (.val mD), some (.val rsD), none, none, none, some (.val (.loc n)), some (.val (.loc (n + 1))), some (.val (.lst own)), some (.val y12), none, none, none, none] own T = .ok x T) :
    (t2_hand_in.run y12 (hi9G pl txt (.lst ll) eD mD rsD (.lst own) n)).elim .no (fun Γ => b2_hand_in Γ T) =
      if k then .nx (hi9G pl txt (.lst ll) eD mD rsD (.lst own) n) T else .ex "BadText" [("line", .int (ll.length : Nat))] ((hi9G pl txt (.lst ll) eD mD rsD (.lst own) n).set 12 (some (.val y12))) T := by
  cases k <;> simp [t2_hand_in, b2_hand_in, hi9G, lc, ho, hx, hbs, -List.all_eq_true, -List.all_eq_false]
end K75
set_option Elab.async false
set_option linter.all false
set_option maxRecDepth 100000
set_option maxHeartbeats 4000000
namespace K75
open PySem L2 DL SX
section
variable (T : Store) (pl txt eD mD rsD : D) (ll : List D) (own : List Nat) (n : Nat) (t : Tb) (h : T[n]? = some (.dT (kvT t))) (ho : own.length ≤ 16777216)
include h ho
theorem chk_step (m : Nat) : (t2_hand_in.run (iD m) (hi9G pl txt (.lst ll) eD mD rsD (.lst (own.map iD)) n)).elim .no (fun Γ => b2_hand_in Γ T) =
      if own_all t own m then .nx (hi9G pl txt (.lst ll) eD mD rsD (.lst (own.map iD)) n) T else .ex "BadText" [("line", .int (ll.length : Nat))] ((hi9G pl txt (.lst ll) eD mD rsD (.lst (own.map iD)) n).set 12 (some (.val (iD m)))) T := by
  refine chk_core T pl txt eD mD rsD ll (own.map iD) n m (own_all t own m) (own.map fun p => (lk t (m, p)).isSome) ?_ (by rw [List.length_map]; exact ho) (own.map fun p => .bl (lk t (m, p)).isSome) (blsOf_map _ _) (iD m) ?_
  · rw [List.all_map]; rfl
  · exact has_lc T t n m h own _ _ _ _ _ _ _ _ _ _ _ _ _ _ _ rfl
theorem chk_ok : ∀ l : List Nat, (∀ m ∈ l, own_all t own m = true) → forL t2_hand_in b2_hand_in (l.map iD) (hi9G pl txt (.lst ll) eD mD rsD (.lst (own.map iD)) n) T = .nx (hi9G pl txt (.lst ll) eD mD rsD (.lst (own.map iD)) n) T := by
  intro l
  induction l with
  | nil => intro _; rfl
  | cons m l ih =>
    intro k
    have st := chk_step T pl txt eD mD rsD ll own n t h ho m
    rw [if_pos (k m (by simp))] at st
    rw [List.map_cons]
    cases e : t2_hand_in.run (iD m) (hi9G pl txt (.lst ll) eD mD rsD (.lst (own.map iD)) n) with
    | none => rw [e] at st; cases st
    | some Γ1 =>
      rw [e] at st
      rw [forL_nx e st, ih fun x hx => k x (by simp [hx])]
theorem chk_bad : ∀ l : List Nat, (∃ m ∈ l, own_all t own m = false) → ∃ Γ', forL t2_hand_in b2_hand_in (l.map iD) (hi9G pl txt (.lst ll) eD mD rsD (.lst (own.map iD)) n) T = .ex "BadText" [("line", .int (ll.length : Nat))] Γ' T := by
  intro l
  induction l with
  | nil => rintro ⟨m, hm, _⟩; cases hm
  | cons m l ih =>
    rintro ⟨x, hx, k⟩
    have st := chk_step T pl txt eD mD rsD ll own n t h ho m
    rw [List.map_cons]
    cases e : t2_hand_in.run (iD m) (hi9G pl txt (.lst ll) eD mD rsD (.lst (own.map iD)) n) with
    | none => rw [e] at st; cases h3 : own_all t own m <;> rw [h3] at st <;> simp at st
    | some Γ1 =>
      rw [e] at st
      cases h3 : own_all t own m with
      | true =>
        rw [h3, if_pos rfl] at st
        rcases List.mem_cons.mp hx with rfl | hx
        · rw [k] at h3; cases h3
        · obtain ⟨Γ', ih'⟩ := ih ⟨x, hx, k⟩
          exact ⟨Γ', by rw [forL_nx e st, ih']⟩
      | false =>
        rw [h3] at st
        exact ⟨_, forL_ex e st⟩
end
theorem hi9_bad (T : Store) (pl txt lsD eD rsD ownD : D) (n : Nat) (many : Int) (zs : List D) (rg : rangeD [.int many] = some zs) (C : PySem.Str) (fs : List (PySem.Str × D)) (Γ' : Gm)
    (lp : forL t2_hand_in b2_hand_in zs (hi9G pl txt lsD eD (.int many) rsD ownD n) T = .ex C fs Γ' T) : hi9 (hi9G pl txt lsD eD (.int many) rsD ownD n) T = .ex C fs Γ' T := by
  simp only [hi9G] at lp ⊢
  simp [hi9, rg, lp]
theorem hi9_ok (T : Store) (pl txt lsD eD rsD ownD : D) (n : Nat) (many : Int) (zs : List D) (rg : rangeD [.int many] = some zs)
    (lp : forL t2_hand_in b2_hand_in zs (hi9G pl txt lsD eD (.int many) rsD ownD n) T = .nx (hi9G pl txt lsD eD (.int many) rsD ownD n) T) : hi9 (hi9G pl txt lsD eD (.int many) rsD ownD n) T = hi11 (hi9G pl txt lsD eD (.int many) rsD ownD n) T := by
  simp only [hi9G] at lp ⊢
  simp [hi9, rg, lp]
theorem hi11_open (T : Store) (pl txt mD rsD ownD : D) (ll : List D) (n : Nat) : hi11 (hi9G pl txt (.lst ll) (.bl false) mD rsD ownD n) T = .ex "BadText" [("line", .int ((ll.length : Nat) - 1))] (hi9G pl txt (.lst ll) (.bl false) mD rsD ownD n) T := by
  simp [hi11, hi9G]
/-! the hand -/
theorem get_lc3 (T : Store) (t : Tb) (n m : Nat) (h : T[n]? = some (.dT (kvT t))) (own : List Nat) (Γ : Gm) (y0 y1 y2 y3 y4 y5 y6 y7 y8 y10 y11 y13 y15 y16 : Option Sl) (e : Γ = [y0, y1, y2, y3, y4, y5, y6, y7, y8, some (.val (.loc n)), y10, y11, some (.val (iD m)), y13, none, y15, y16]) :
    lcL lt3_hand_in bYes lf3_hand_in Γ (own.map iD) T = .ok (own.map fun p => opN (lk t (m, p))) T :=
  lcL_all iD (fun p => opN (lk t (m, p))) own fun p _ => by
    have hd := dAt_k t (m, p)
    subst e
    simp only [kD] at hd
    cases e2 : lk t (m, p) with
    | none => rw [e2] at hd; simp [lt3_hand_in, lf3_hand_in, iD, h, hd, isDc, opN]
    | some x => rw [e2] at hd; simp [lt3_hand_in, lf3_hand_in, iD, h, hd, isDc, opN]
theorem get_lc5 (T : Store) (t : Tb) (n m : Nat) (h : T[n + 1]? = some (.dT (kvT t))) (own : List Nat) (Γ : Gm) (y0 y1 y2 y3 y4 y5 y6 y7 y8 y9 y11 y13 y14 y15 : Option Sl) (e : Γ = [y0, y1, y2, y3, y4, y5, y6, y7, y8, y9, some (.val (.loc (n + 1))), y11, some (.val (iD m)), y13, y14, y15, none]) :
    lcL lt5_hand_in bYes lf5_hand_in Γ (own.map iD) T = .ok (own.map fun p => iD ((lk t (m, p)).getD m)) T :=
  lcL_all iD (fun p => iD ((lk t (m, p)).getD m)) own fun p _ => by
    have hd := dAt_k t (m, p)
    subst e
    simp only [kD] at hd
    cases e2 : lk t (m, p) with
    | none => rw [e2] at hd; simp [lt5_hand_in, lf5_hand_in, iD, h, hd, isDc]
    | some x => rw [e2] at hd; simp [lt5_hand_in, lf5_hand_in, iD, h, hd, isDc]
end K75
set_option Elab.async false
set_option linter.all false
set_option maxRecDepth 100000
set_option maxHeartbeats 4000000
namespace K75
open PySem L2 DL SX
theorem lf4_core (T : Store) (pl txt lsD eD mD rsD ownD : D) (y8 y13 : Option Sl) (n m : Nat) (owl : List D) (k : Int) (zs ds : List D) (hp : oIx T pl (.int 2) = some (.tup owl)) (hl : bLen T [.tup owl] = some (.int k)) (rg : rangeD [.int k] = some zs) (hz : zs.length ≤ 16777216)
    (lc : lcL lt3_hand_in bYes lf3_hand_in [some (.val pl), some (.val txt), some (.val lsD), some (.val eD), some (.val mD), some (.val rsD), none, none, y8, some (.val (.loc n)), some (.val (.loc (n + 1))), some (.val ownD), some (.val (iD m)), y13, none, none, none] zs T = .ok ds T) :
    (lt4_hand_in.run (iD m) [some (.val pl), some (.val txt), some (.val lsD), some (.val eD), some (.val mD), some (.val rsD), none, none, y8, some (.val (.loc n)), some (.val (.loc (n + 1))), some (.val ownD), none, y13, none, none, none]).elim .no (fun Γ => lf4_hand_in Γ T) = .ok (.tup ds) T := by
  simp [lt4_hand_in, lf4_hand_in, hp, hl, rg, hz, lc, -o_lenT]
theorem b3_core (T : Store) (pl txt lsD eD mD rsD ownD tkD : D) (n m : Nat) (mvl acc : List D) (k : Int) (zs ds : List D) (hp : F_moves_of [pl] T = .ok (.lst mvl) T) (hl : bLen T [.lst mvl] = some (.int k)) (rg : rangeD [.int k] = some zs) (hz : zs.length ≤ 16777216) (ha : acc.length < 16777216)
    (lc : ∀ y13, lcL lt5_hand_in bYes lf5_hand_in [some (.val pl), some (.val txt), some (.val lsD), some (.val eD), some (.val mD), some (.val rsD), none, none, some (.val tkD), some (.val (.loc n)), some (.val (.loc (n + 1))), some (.val ownD), some (.val (iD m)), y13, none, none, none] zs T = .ok ds T) :
    (t3_hand_in.run (iD m) [some (.val pl), some (.val txt), some (.val lsD), some (.val eD), some (.val mD), some (.val rsD), none, none, some (.val tkD), some (.val (.loc n)), some (.val (.loc (n + 1))), some (.val ownD), none, some (.own (.lst acc)), none, none, none]).elim .no (fun Γ => b3_hand_in Γ T) =
      .nx [some (.val pl), some (.val txt), some (.val lsD), some (.val eD), some (.val mD), some (.val rsD), none, none, some (.val tkD), some (.val (.loc n)), some (.val (.loc (n + 1))), some (.val ownD), none, some (.own (.lst (acc ++ [.tup ds]))), none, none, none] T := by
  simp [t3_hand_in, b3_hand_in, hp, hl, rg, hz, lc, ha, -o_lenL]
theorem hi11_core (T : Store) (pl txt lsD rsD ownD : D) (n : Nat) (many : Int) (zs tk nx : List D) (rg : rangeD [.int many] = some zs) (hz : zs.length ≤ 16777216)
    (lc4 : lcL lt4_hand_in bYes lf4_hand_in [some (.val pl), some (.val txt), some (.val lsD), some (.val (.bl true)), some (.val (.int many)), some (.val rsD), none, none, none, some (.val (.loc n)), some (.val (.loc (n + 1))), some (.val ownD), none, none, none, none, none] zs T = .ok tk T)
    (lp : forL t3_hand_in b3_hand_in zs [some (.val pl), some (.val txt), some (.val lsD), some (.val (.bl true)), some (.val (.int many)), some (.val rsD), none, none, some (.val (.lst tk)), some (.val (.loc n)), some (.val (.loc (n + 1))), some (.val ownD), none, some (.own (.lst [])), none, none, none] T =
      .nx [some (.val pl), some (.val txt), some (.val lsD), some (.val (.bl true)), some (.val (.int many)), some (.val rsD), none, none, some (.val (.lst tk)), some (.val (.loc n)), some (.val (.loc (n + 1))), some (.val ownD), none, some (.own (.lst nx)), none, none, none] T) :
    hi11 (hi9G pl txt lsD (.bl true) (.int many) rsD ownD n) T = .rt (.tup [.str "hand", .tup tk, .tup nx]) T := by
  simp [hi11, hi9G, rg, hz, lc4, lp]
def tkOf (t : Tb) (places many : Nat) : List (List (Option Nat)) := (List.range many).map fun m => (List.range places).map fun p => lk t (m, p)
def nxOf (t : Tb) (moves many : Nat) : List (List Nat) := (List.range many).map fun m => (List.range moves).map fun p => (lk t (m, p)).getD m
section
variable {L : Int} {ow : List Int} {rows : List (List Mv)} (hm : (mvs rows).length ≤ 1000) (ho : ow.length ≤ 1000) (txt lsD eD mD rsD ownD : D) (T : Store) (n : Nat) (ta tb : Tb) (ha : T[n]? = some (.dT (kvT ta))) (hb : T[n + 1]? = some (.dT (kvT tb)))
include hm ho ha hb
theorem hi_tk (many : Nat) : lcL lt4_hand_in bYes lf4_hand_in [some (.val (plD L ow rows)), some (.val txt), some (.val lsD), some (.val eD), some (.val mD), some (.val rsD), none, none, none, some (.val (.loc n)), some (.val (.loc (n + 1))), some (.val ownD), none, none, none, none, none] ((List.range many).map iD) T = .ok ((tkOf ta ow.length many).map tkN) T := by
  have hp : oIx T (plD L ow rows) (.int 2) = some (.tup (ow.map .int)) := by unfold plD; rw [o_ixT]; exact atI_2 _ _ _ _
  have hl : bLen T [.tup (ow.map .int)] = some (.int (ow.length : Nat)) := by rw [o_lenT, List.length_map]
  have rg := rgN (n := ow.length) (by omega)
  have := lcL_all (f := lf4_hand_in) (t := lt4_hand_in) (S := T) (Γ := [some (.val (plD L ow rows)), some (.val txt), some (.val lsD), some (.val eD), some (.val mD), some (.val rsD), none, none, none, some (.val (.loc n)), some (.val (.loc (n + 1))), some (.val ownD), none, none, none, none, none]) iD (fun m => .tup ((List.range ow.length).map fun p => opN (lk ta (m, p)))) (List.range many) fun m _ =>
    lf4_core T (plD L ow rows) txt lsD eD mD rsD ownD none none n m _ _ _ _ hp hl rg (by rw [iD_len]; omega) (get_lc3 T ta n m ha (List.range ow.length) _ _ _ _ _ _ _ _ _ _ _ _ _ _ _ rfl)
  have en : ((List.range many).map fun m => D.tup ((List.range ow.length).map fun p => opN (lk ta (m, p)))) = (tkOf ta ow.length many).map tkN := by
    rw [tkOf, List.map_map]
    exact List.map_congr_left fun m _ => by simp [tkN]
  rw [← en]
  exact this
theorem hi_nx (tkD : D) : ∀ (l : List Nat) (acc : List D), acc.length + l.length < 16777216 → forL t3_hand_in b3_hand_in (l.map iD) [some (.val (plD L ow rows)), some (.val txt), some (.val lsD), some (.val eD), some (.val mD), some (.val rsD), none, none, some (.val tkD), some (.val (.loc n)), some (.val (.loc (n + 1))), some (.val ownD), none, some (.own (.lst acc)), none, none, none] T =
      .nx [some (.val (plD L ow rows)), some (.val txt), some (.val lsD), some (.val eD), some (.val mD), some (.val rsD), none, none, some (.val tkD), some (.val (.loc n)), some (.val (.loc (n + 1))), some (.val ownD), none, some (.own (.lst (acc ++ l.map fun m => nxN ((List.range (mvs rows).length).map fun p => (lk tb (m, p)).getD m)))), none, none, none] T := by
  intro l
  induction l with
  | nil => intro acc _; simp
  | cons m l ih =>
    intro acc hacc
    simp only [List.length_cons] at hacc
    have hp := moves_of L ow rows T (by omega)
    have hl : bLen T [.lst ((mvs rows).map tI3)] = some (.int ((mvs rows).length : Nat)) := by rw [o_lenL, List.length_map]
    have rg := rgN (n := (mvs rows).length) (by omega)
    have st := b3_core T (plD L ow rows) txt lsD eD mD rsD ownD tkD n m _ acc _ _ _ hp hl rg (by rw [iD_len]; omega) (by omega) (fun y13 => get_lc5 T tb n m hb (List.range (mvs rows).length) _ _ _ _ _ _ _ _ _ _ _ _ y13 _ _ rfl)
    have en : D.tup ((List.range (mvs rows).length).map fun p => iD ((lk tb (m, p)).getD m)) = nxN ((List.range (mvs rows).length).map fun p => (lk tb (m, p)).getD m) := by simp [nxN]
    rw [en] at st
    have ih' := ih (acc ++ [nxN ((List.range (mvs rows).length).map fun p => (lk tb (m, p)).getD m)]) (by simp; omega)
    rw [List.map_cons]
    cases e : t3_hand_in.run (iD m) [some (.val (plD L ow rows)), some (.val txt), some (.val lsD), some (.val eD), some (.val mD), some (.val rsD), none, none, some (.val tkD), some (.val (.loc n)), some (.val (.loc (n + 1))), some (.val ownD), none, some (.own (.lst acc)), none, none, none] with
    | none => rw [e] at st; cases st
    | some Γ1 =>
      rw [e] at st
      rw [forL_nx e st, ih']
      simp
end
end K75
set_option Elab.async false
set_option linter.all false
set_option maxRecDepth 100000
set_option maxHeartbeats 4000000
namespace K75
open PySem L2 DL SX
def toldT (rs : List Row) (places many : Nat) : List (List (Option Nat)) := (List.range many).map fun m => (List.range places).map fun p => firstR rs false (m, p)
def toldN (rs : List Row) (moves many : Nat) : List (List Nat) := (List.range many).map fun m => (List.range moves).map fun p => (firstR rs true (m, p)).getD m
theorem tkOf_tabs (rs : List Row) (places many : Nat) : tkOf (tabs many false rs) places many = toldT rs places many :=
  List.map_congr_left fun m hm => List.map_congr_left fun p _ => lk_tabs (k := (m, p)) (List.mem_range.mp hm) rs
theorem nxOf_tabs (rs : List Row) (moves many : Nat) : nxOf (tabs many true rs) moves many = toldN rs moves many :=
  List.map_congr_left fun m hm => List.map_congr_left fun p _ => by rw [lk_tabs (k := (m, p)) (List.mem_range.mp hm) rs]
theorem hand_rt {pl txt d : D} {T T' : Store} (h : g_hand_in (hi0 pl txt) T = .rt d T') : F_hand_in [pl, txt] T = .ok d T' := by
  simp only [hi0] at h
  simp [F_hand_in, fnOf, h]
theorem hand_ex {pl txt : D} {C : PySem.Str} {fs : List (PySem.Str × D)} {Γ' : Gm} {T T' : Store} (h : g_hand_in (hi0 pl txt) T = .ex C fs Γ' T') : F_hand_in [pl, txt] T = .ex C fs T' := by
  simp only [hi0] at h
  simp [F_hand_in, fnOf, h]
theorem nl_tabs (a b : Tb) : NL [.dT (kvT a), .dT (kvT b)] := by
  unfold NL
  simp only [List.all_cons, List.all_nil, Bool.and_true, noLstO, kvT, List.all_map]
  rw [Bool.and_eq_true, List.all_eq_true, List.all_eq_true]
  exact ⟨fun x _ => rfl, fun x _ => rfl⟩
theorem enum_tx (l : List (List Nat)) : enumD (l.map tx) = l.zipIdx.map lnD := by rw [enumD_eq, enumF_map]; rfl
theorem map_zipIdx_fst (l : List (List Nat)) (f : List Nat → Option Row) : l.zipIdx.map (fun p => f p.1) = l.map f := by
  have : l.zipIdx.map (fun p => f p.1) = (l.zipIdx.map Prod.fst).map f := by rw [List.map_map]; rfl
  rw [this, List.zipIdx_map_fst]
section
variable {L : Int} {ow : List Int} {rows : List (List Mv)} (P : PlOk L ow rows) (txt : List Nat) (ini : List (List Nat)) (last : List Nat) (g : Good txt) (hs : spl 10 txt = ini ++ [last]) (T : Store)
include P g hs
theorem good_lns : ∀ w ∈ lns ini last, Good w := fun w hw => by
  have gw : ∀ w ∈ ini ++ [last], Good w := fun w hw => good_spl g (by rw [hs]; exact hw)
  unfold lns at hw
  split at hw
  · exact gw w (by simp [hw])
  · exact gw w hw
theorem hand_in_first (h : mmOf (lns ini last) = none) : F_hand_in [plD L ow rows, tx txt] T = .ex "BadText" [("line", .int 0)] T := by
  have h1 := hi_head T (plD L ow rows) txt ini last g hs
  rw [h] at h1
  exact hand_ex (h1.trans (hi5_none T _ _ _ _))
theorem lns_len : (lns ini last).length ≤ 1000001 := by
  have := spl_len 10 txt []
  have e : (spl 10 txt).length = ini.length + 1 := by rw [hs]; simp
  have := g.1
  have h2 : (lns ini last).length ≤ ini.length + 1 := by unfold lns; split <;> simp
  unfold spl at e
  omega
variable (l0 : List Nat) (many : Nat) (h0 : MIw (spl 32 l0) = some many)
include h0
theorem hand_in_row (pre post : List (List Nat)) (b : List Nat) (e : lns ini last = l0 :: (pre ++ b :: post)) (rs : List Row) (hr : pre.map (fun l => LIw ow rows many (spl 32 l)) = rs.map some) (hb : LIw ow rows many (spl 32 b) = none) :
    F_hand_in [plD L ow rows, tx txt] T = .ex "BadText" [("line", .int ((pre.length : Nat) + 1))] T := by
  have h1 := hi_head T (plD L ow rows) txt ini last g hs
  have gl := good_lns P txt ini last g hs
  have ln := lns_len P txt ini last g hs
  have em : mmOf (lns ini last) = some many := by rw [e]; exact h0
  rw [em, e] at h1
  rw [e] at gl ln
  simp only [List.length_cons, List.length_append] at ln
  have ez : (pre ++ b :: post).zipIdx = pre.zipIdx ++ (b, pre.length) :: post.zipIdx (pre.length + 1) := by
    rw [List.zipIdx_append, List.zipIdx_cons]; simp
  have hm := mvs_le P
  obtain ⟨Γ', lp⟩ := hi_loop_bad P.len (by omega) many (tx txt) (.lst ((l0 :: (pre ++ b :: post)).map tx)) (.bl (decide (last = []))) T pre.zipIdx rs [] (b, pre.length) (post.zipIdx (pre.length + 1))
    ((map_zipIdx_fst _ fun l => LIw ow rows many (spl 32 l)).trans hr) hb (fun p hp => gl _ (by have := List.mem_of_getElem? (zipIdx_mem hp); simp [this])) (gl _ (by simp)) (by simp; omega)
  rw [← ez] at lp
  have ee : enumD ((l0 :: (pre ++ b :: post)).map tx).tail = (pre ++ b :: post).zipIdx.map lnD := by
    rw [List.map_cons, List.tail_cons]
    exact enum_tx _
  exact hand_ex (h1.trans (hi5_bad T (plD L ow rows) (tx txt) (.bl (decide (last = []))) many _ _ ee _ _ Γ' lp))
variable (ls : List (List Nat)) (e : lns ini last = l0 :: ls) (rs : List Row) (hr : ls.map (fun l => LIw ow rows many (spl 32 l)) = rs.map some) (h60 : many ≤ 60) (hn : rs.length < 5000)
include e hr h60 hn
theorem hand_in_mid : g_hand_in (hi0 (plD L ow rows) (tx txt)) T = hi9 (hi9G (plD L ow rows) (tx txt) (.lst ((lns ini last).map tx)) (.bl (decide (last = []))) (.int (many : Nat)) (.lst (rs.map rowP)) (.lst ((ownP ow).map iD)) T.length) (T ++ [.dT (kvT (tabs many false rs)), .dT (kvT (tabs many true rs))]) := by
  have h1 := hi_head T (plD L ow rows) txt ini last g hs
  have gl := good_lns P txt ini last g hs
  have ln := lns_len P txt ini last g hs
  have em : mmOf (lns ini last) = some many := by rw [e]; exact h0
  rw [em] at h1
  have hm := mvs_le P
  have h24 := P.n24
  have hl := P.len
  rw [e] at gl ln h1 ⊢
  simp only [List.length_cons] at ln
  have lp := hi_loop (L := L) P.len (by omega) many (tx txt) (.lst ((l0 :: ls).map tx)) (.bl (decide (last = []))) T ls.zipIdx rs []
    ((map_zipIdx_fst _ fun l => LIw ow rows many (spl 32 l)).trans hr) (fun p hp => gl _ (by have := List.mem_of_getElem? (zipIdx_mem hp); simp [this])) (by simp; omega)
  have ee : enumD ((l0 :: ls).map tx).tail = ls.zipIdx.map lnD := by
    rw [List.map_cons, List.tail_cons]
    exact enum_tx _
  rw [List.nil_append] at lp
  refine h1.trans ((hi5_ok T (plD L ow rows) (tx txt) (.bl (decide (last = []))) many _ _ ee _ lp).trans ?_)
  have ho : oIx (T ++ [.dT (kvT (tabs many false rs)), .dT (kvT (tabs many true rs))]) (plD L ow rows) (.int 2) = some (.tup (ow.map .int)) := by unfold plD; rw [o_ixT]; exact atI_2 _ _ _ _
  have ht := tables_of T (plD L ow rows) many rs (by omega) hn
  have hz : (owE ow).length ≤ 16777216 := by rw [owE]; simp; omega
  exact hi6_core T _ (plD L ow rows) (tx txt) _ _ (.int (many : Nat)) (rs.map rowP) _ (owE ow) ((ownP ow).map iD) T.length ho (enum_ow ow) hz ht fun Γ hΓ => own_lc _ ow Γ hΓ
theorem hand_in_less (hx : ∃ m p, m < many ∧ ow[p]? = some 0 ∧ firstR rs false (m, p) = none) :
    F_hand_in [plD L ow rows, tx txt] T = .ex "BadText" [("line", .int ((lns ini last).length : Nat))] (T ++ [.dT (kvT (tabs many false rs)), .dT (kvT (tabs many true rs))]) := by
  have h1 := hand_in_mid P txt ini last g hs T l0 many h0 ls e rs hr h60 hn
  obtain ⟨m, p, hm, hp, hf⟩ := hx
  have h24 := P.n24
  have hl := P.len
  have hlen := ownP_len ow
  have t0 : (T ++ [SO.dT (kvT (tabs many false rs)), .dT (kvT (tabs many true rs))])[T.length]? = some (.dT (kvT (tabs many false rs))) := by simp
  obtain ⟨Γ', lp⟩ := chk_bad (T ++ [.dT (kvT (tabs many false rs)), .dT (kvT (tabs many true rs))]) (plD L ow rows) (tx txt) (.bl (decide (last = []))) (.int (many : Nat)) (.lst (rs.map rowP)) ((lns ini last).map tx) (ownP ow) T.length (tabs many false rs) t0 (by omega) (List.range many)
    ⟨m, List.mem_range.mpr hm, by
      unfold own_all
      rw [List.all_eq_false]
      exact ⟨p, ownP_mem.mpr hp, by rw [lk_tabs (k := (m, p)) hm, hf]; simp⟩⟩
  rw [List.length_map] at lp
  exact hand_ex (h1.trans (hi9_bad _ _ _ _ _ _ _ _ _ _ (rgN (n := many) (by omega)) _ _ Γ' lp))
variable (hall : ∀ m p, m < many → ow[p]? = some 0 → firstR rs false (m, p) ≠ none)
include hall
theorem hand_in_all : g_hand_in (hi0 (plD L ow rows) (tx txt)) T = hi11 (hi9G (plD L ow rows) (tx txt) (.lst ((lns ini last).map tx)) (.bl (decide (last = []))) (.int (many : Nat)) (.lst (rs.map rowP)) (.lst ((ownP ow).map iD)) T.length) (T ++ [.dT (kvT (tabs many false rs)), .dT (kvT (tabs many true rs))]) := by
  have h1 := hand_in_mid P txt ini last g hs T l0 many h0 ls e rs hr h60 hn
  have h24 := P.n24
  have hl := P.len
  have hlen := ownP_len ow
  have t0 : (T ++ [SO.dT (kvT (tabs many false rs)), .dT (kvT (tabs many true rs))])[T.length]? = some (.dT (kvT (tabs many false rs))) := by simp
  have lp := chk_ok (T ++ [.dT (kvT (tabs many false rs)), .dT (kvT (tabs many true rs))]) (plD L ow rows) (tx txt) (.bl (decide (last = []))) (.int (many : Nat)) (.lst (rs.map rowP)) ((lns ini last).map tx) (ownP ow) T.length (tabs many false rs) t0 (by omega) (List.range many)
    (fun m hm => by
      unfold own_all
      rw [List.all_eq_true]
      intro p hp
      rw [lk_tabs (k := (m, p)) (List.mem_range.mp hm), Option.isSome_iff_ne_none]
      exact hall m p (List.mem_range.mp hm) (ownP_mem.mp hp))
  exact h1.trans (hi9_ok _ _ _ _ _ _ _ _ _ _ (rgN (n := many) (by omega)) lp)
theorem hand_in_open (ho : last ≠ []) :
    F_hand_in [plD L ow rows, tx txt] T = .ex "BadText" [("line", .int (((lns ini last).length : Nat) - 1))] (T ++ [.dT (kvT (tabs many false rs)), .dT (kvT (tabs many true rs))]) := by
  have h1 := hand_in_all P txt ini last g hs T l0 many h0 ls e rs hr h60 hn hall
  rw [decide_eq_false ho] at h1
  have h2 := hi11_open (T ++ [.dT (kvT (tabs many false rs)), .dT (kvT (tabs many true rs))]) (plD L ow rows) (tx txt) (.int (many : Nat)) (.lst (rs.map rowP)) (.lst ((ownP ow).map iD)) ((lns ini last).map tx) T.length
  rw [List.length_map] at h2
  exact hand_ex (h1.trans h2)
theorem hand_in_hand (ho : last = []) :
    F_hand_in [plD L ow rows, tx txt] T = .ok (hdN (toldT rs ow.length many) (toldN rs (mvs rows).length many)) (T ++ [.dT (kvT (tabs many false rs)), .dT (kvT (tabs many true rs))]) := by
  have h1 := hand_in_all P txt ini last g hs T l0 many h0 ls e rs hr h60 hn hall
  rw [decide_eq_true ho] at h1
  have h24 := P.n24
  have hl := P.len
  have hm := mvs_le P
  have t0 : (T ++ [SO.dT (kvT (tabs many false rs)), .dT (kvT (tabs many true rs))])[T.length]? = some (.dT (kvT (tabs many false rs))) := by simp
  have t1 : (T ++ [SO.dT (kvT (tabs many false rs)), .dT (kvT (tabs many true rs))])[T.length + 1]? = some (.dT (kvT (tabs many true rs))) := by
    rw [List.getElem?_append_right (by omega)]
    simp
  have a := hi_tk (L := L) (ow := ow) (rows := rows) (by omega) (by omega) (tx txt) (.lst ((lns ini last).map tx)) (.bl true) (.int (many : Nat)) (.lst (rs.map rowP)) (.lst ((ownP ow).map iD)) _ T.length _ _ t0 t1 many
  have b := hi_nx (L := L) (ow := ow) (rows := rows) (by omega) (by omega) (tx txt) (.lst ((lns ini last).map tx)) (.bl true) (.int (many : Nat)) (.lst (rs.map rowP)) (.lst ((ownP ow).map iD)) _ T.length _ _ t0 t1 (.lst ((tkOf (tabs many false rs) ow.length many).map tkN)) (List.range many) [] (by simp; omega)
  rw [List.nil_append] at b
  have h2 := hi11_core _ (plD L ow rows) (tx txt) (.lst ((lns ini last).map tx)) (.lst (rs.map rowP)) (.lst ((ownP ow).map iD)) T.length many _ _ _ (rgN (n := many) (by omega)) (by rw [iD_len]; omega) a b
  have en : ((List.range many).map fun m => nxN ((List.range (mvs rows).length).map fun p => (lk (tabs many true rs) (m, p)).getD m)) = (nxOf (tabs many true rs) (mvs rows).length many).map nxN := by
    rw [nxOf, List.map_map]
    rfl
  rw [en, tkOf_tabs, nxOf_tabs] at h2
  exact hand_rt (h1.trans h2)
end
end K75
set_option Elab.async false
set_option linter.all false
set_option maxRecDepth 100000
set_option maxHeartbeats 4000000
namespace K75
open PySem L2 DL SX
/-! ### the law's first row -/
theorem pySL_iD (T : Store) : ∀ l : List Nat, pySL T (l.map iD) = some (l.map fun (x : Nat) => .int (x : Int))
  | [] => by simp [pySL]
  | a :: l => by simp [pySL, pyS, iD, pySL_iD T l]
theorem canLay_iD : ∀ l : List Nat, PyData.canLayAll0 (l.map fun (x : Nat) => PyData.int (x : Int)) = true ∧ PyData.depthAll (l.map fun (x : Nat) => PyData.int (x : Int)) = 0
  | [] => by simp [PyData.canLayAll0, PyData.depthAll]
  | a :: l => by
    obtain ⟨h1, h2⟩ := canLay_iD l
    simp [PyData.canLayAll0, PyData.canLay0, PyData.depthAll, PyData.depth, h1, h2]
theorem ne_nil_iD (T : Store) (l : List Nat) : oNe T (.lst (l.map iD)) (.lst []) = some (.bl (!l.isEmpty)) := by
  obtain ⟨h1, h2⟩ := canLay_iD l
  unfold oNe
  rw [eq_nil T _ _ (pySL_iD T l) h1 (by omega)]
  simp
def goI (go : Bool) : Int := if go then 1 else 0
theorem first_lc (T : Store) (go : Bool) (m near : Nat) (rs : List Row) (y0 y4 : Option Sl) (Γ : Gm) (e : Γ = [y0, some (.val (.int (goI go))), some (.val (.int (m : Int))), some (.val (.int (near : Int))), y4, none, none, none, none, none]) :
    lcL lt1__law_first lc1__law_first lf1__law_first Γ (rs.map rowD4) T = .ok (((rs.filter (fits go (m, near))).map (·.far)).map iD) T := by
  have := lcL_ok (t := lt1__law_first) (c := lc1__law_first) (f := lf1__law_first) (Γ := Γ) (S := T) rowD4 (fits go (m, near)) (fun r => iD r.far) rs
    (fun r _ => by
      obtain ⟨g, mem, nr, fr⟩ := r
      have h := mem_in T mem m
      subst e
      simp only [rowD4, fits]
      generalize opN mem = q at *
      have e3 : (((nr : Nat) : Int) = (near : Nat)) = (nr = near) := by rw [eq_iff_iff]; omega
      cases g <;> cases go <;> simp [lt1__law_first, lc1__law_first, h, goI, e3]
      · by_cases h2 : mem = none ∨ mem = some m <;> simp [h2]
      · by_cases h2 : mem = none ∨ mem = some m <;> simp [h2])
    (fun r _ _ => by subst e; obtain ⟨g, mem, nr, fr⟩ := r; simp [lt1__law_first, lf1__law_first, iD, rowD4])
  rw [this, List.map_map]
  rfl
theorem first_core (T : Store) (rs zs : List D) (k m nr oth : D) (b : Bool) (hb : oNe T (.lst zs) (.lst []) = some (.bl b)) (hz : rs.length ≤ 16777216) (x : D) (hx : b = true → L2.atI zs 0 = some x)
    (lc : lcL lt1__law_first lc1__law_first lf1__law_first [some (.val (.lst rs)), some (.val k), some (.val m), some (.val nr), some (.val oth), none, none, none, none, none] rs T = .ok zs T) :
    F__law_first [.lst rs, k, m, nr, oth] T = .ok (if b then x else oth) T := by
  cases b with
  | true => have := hx rfl; simp [F__law_first, fnOf, g__law_first, lc, hz, hb, this]
  | false => simp [F__law_first, fnOf, g__law_first, lc, hz, hb]
theorem law_first (T : Store) (rs : List Row) (go : Bool) (m near : Nat) (oth : D) (hz : rs.length ≤ 10000) :
    F__law_first [.lst (rs.map rowD4), .int (goI go), .int (m : Int), .int (near : Int), oth] T = .ok (match firstR rs go (m, near) with | some f => iD f | none => oth) T := by
  have lc := first_lc T go m near rs (some (.val (.lst (rs.map rowD4)))) (some (.val oth)) _ rfl
  have nn := ne_nil_iD T ((rs.filter (fits go (m, near))).map (·.far))
  unfold firstR
  rw [← List.head?_filter]
  cases e : rs.filter (fits go (m, near)) with
  | nil =>
    rw [e] at lc nn
    exact first_core T (rs.map rowD4) [] (.int (goI go)) (.int m) (.int near) oth false nn (by rw [List.length_map]; omega) .non (fun h => by cases h) lc
  | cons r l =>
    rw [e] at lc nn
    exact first_core T (rs.map rowD4) _ (.int (goI go)) (.int m) (.int near) oth true nn (by rw [List.length_map]; omega) (iD r.far) (fun _ => atI_0 _ _) lc
/-! told -/
section
variable (T : Store) (pl rsD : D) (rs : List Row) (many : Int)
theorem told_step (m : Nat) (x1 : Option Sl) (ak an : List D) (owl mvl : List D) (p k : Int) (zp zk d1 d2 : List D) (h1 : oIx T pl (.int 2) = some (.tup owl)) (h2 : bLen T [.tup owl] = some (.int p)) (h3 : rangeD [.int p] = some zp)
    (h4 : F__law_moves [pl] T = .ok (.lst mvl) T) (h5 : bLen T [.lst mvl] = some (.int k)) (h6 : rangeD [.int k] = some zk) (hzp : zp.length ≤ 16777216) (hzk : zk.length ≤ 16777216) (ha : ak.length < 16777216) (hb : an.length < 16777216)
    (l1 : ∀ y3 y4, lcL lt1__law_told bYes lf1__law_told [some (.val pl), x1, some (.val rsD), y3, y4, some (.val (iD m)), none, none] zp T = .ok d1 T)
    (l2 : ∀ y3 y4, lcL lt2__law_told bYes lf2__law_told [some (.val pl), x1, some (.val rsD), y3, y4, some (.val (iD m)), none, none] zk T = .ok d2 T) :
    (t1__law_told.run (iD m) [some (.val pl), x1, some (.val rsD), some (.own (.lst ak)), some (.own (.lst an)), none, none, none]).elim .no (fun Γ => b1__law_told Γ T) =
      .nx [some (.val pl), x1, some (.val rsD), some (.own (.lst (ak ++ [.tup d1]))), some (.own (.lst (an ++ [.tup d2]))), none, none, none] T := by
  simp [t1__law_told, b1__law_told, h1, h2, h3, h4, h5, h6, hzp, hzk, l1, l2, ha, hb, -o_lenL, -o_lenT]
theorem told_core (n : D) (zs tk nx : List D) (rg : rangeD [n] = some zs)
    (lp : forL t1__law_told b1__law_told zs [some (.val pl), some (.val n), some (.val rsD), some (.own (.lst [])), some (.own (.lst [])), none, none, none] T = .nx [some (.val pl), some (.val n), some (.val rsD), some (.own (.lst tk)), some (.own (.lst nx)), none, none, none] T) :
    F__law_told [pl, n, rsD] T = .ok (.tup [.str "hand", .tup tk, .tup nx]) T := by
  simp [F__law_told, fnOf, g__law_told, setM, rg, lp]
end
end K75
set_option Elab.async false
set_option linter.all false
set_option maxRecDepth 100000
set_option maxHeartbeats 4000000
namespace K75
open PySem L2 DL SX
section
variable {L : Int} {ow : List Int} {rows : List (List Mv)} (P : PlOk L ow rows) (T : Store) (rs : List Row) (hz : rs.length ≤ 10000)
include P hz
theorem told_loop (x1 : Option Sl) : ∀ (l : List Nat) (ak : List D) (an : List D), ak.length + l.length < 16777216 → an.length + l.length < 16777216 →
    forL t1__law_told b1__law_told (l.map iD) [some (.val (plD L ow rows)), x1, some (.val (.lst (rs.map rowD4))), some (.own (.lst ak)), some (.own (.lst an)), none, none, none] T =
      .nx [some (.val (plD L ow rows)), x1, some (.val (.lst (rs.map rowD4))), some (.own (.lst (ak ++ l.map fun m => tkN ((List.range ow.length).map fun p => firstR rs false (m, p))))), some (.own (.lst (an ++ l.map fun m => nxN ((List.range (mvs rows).length).map fun p => (firstR rs true (m, p)).getD m)))), none, none, none] T := by
  intro l
  induction l with
  | nil => intro ak an _ _; simp
  | cons m l ih =>
    intro ak an h1 h2
    simp only [List.length_cons] at h1 h2
    have h24 := P.n24
    have hl := P.len
    have hm := mvs_le P
    have g1 : oIx T (plD L ow rows) (.int 2) = some (.tup (ow.map .int)) := by unfold plD; rw [o_ixT]; exact atI_2 _ _ _ _
    have g2 : bLen T [.tup (ow.map .int)] = some (.int (ow.length : Nat)) := by rw [o_lenT, List.length_map]
    have g3 := rgN (n := ow.length) (by omega)
    have g4 := law_moves L ow rows T (by omega)
    have g5 : bLen T [.lst ((mvs rows).map tI3)] = some (.int ((mvs rows).length : Nat)) := by rw [o_lenL, List.length_map]
    have g6 := rgN (n := (mvs rows).length) (by omega)
    have l1 : ∀ y3 y4, lcL lt1__law_told bYes lf1__law_told [some (.val (plD L ow rows)), x1, some (.val (.lst (rs.map rowD4))), y3, y4, some (.val (iD m)), none, none] ((List.range ow.length).map iD) T = .ok ((List.range ow.length).map fun p => opN (firstR rs false (m, p))) T := fun y3 y4 =>
      lcL_all iD (fun p => opN (firstR rs false (m, p))) (List.range ow.length) fun p _ => by
        have := law_first T rs false m p .non hz
        simp only [goI, Bool.false_eq_true, if_false] at this
        simp [lt1__law_told, lf1__law_told, iD, this]
        cases firstR rs false (m, p) <;> rfl
    have l2 : ∀ y3 y4, lcL lt2__law_told bYes lf2__law_told [some (.val (plD L ow rows)), x1, some (.val (.lst (rs.map rowD4))), y3, y4, some (.val (iD m)), none, none] ((List.range (mvs rows).length).map iD) T = .ok ((List.range (mvs rows).length).map fun p => iD ((firstR rs true (m, p)).getD m)) T := fun y3 y4 =>
      lcL_all iD (fun p => iD ((firstR rs true (m, p)).getD m)) (List.range (mvs rows).length) fun p _ => by
        have := law_first T rs true m p (.int m) hz
        simp only [goI, if_true] at this
        simp [lt2__law_told, lf2__law_told, iD, this]
        cases firstR rs true (m, p) <;> rfl
    have st := told_step T (plD L ow rows) (.lst (rs.map rowD4)) m x1 ak an _ _ _ _ _ _ _ _ g1 g2 g3 g4 g5 g6 (by rw [iD_len]; omega) (by rw [iD_len]; omega) (by omega) (by omega) l1 l2
    have e1 : D.tup ((List.range ow.length).map fun p => opN (firstR rs false (m, p))) = tkN ((List.range ow.length).map fun p => firstR rs false (m, p)) := by simp [tkN]
    have e2 : D.tup ((List.range (mvs rows).length).map fun p => iD ((firstR rs true (m, p)).getD m)) = nxN ((List.range (mvs rows).length).map fun p => (firstR rs true (m, p)).getD m) := by simp [nxN]
    rw [e1, e2] at st
    have ih' := ih (ak ++ [tkN ((List.range ow.length).map fun p => firstR rs false (m, p))]) (an ++ [nxN ((List.range (mvs rows).length).map fun p => (firstR rs true (m, p)).getD m)]) (by simp; omega) (by simp; omega)
    rw [List.map_cons]
    cases e : t1__law_told.run (iD m) [some (.val (plD L ow rows)), x1, some (.val (.lst (rs.map rowD4))), some (.own (.lst ak)), some (.own (.lst an)), none, none, none] with
    | none => rw [e] at st; cases st
    | some Γ1 =>
      rw [e] at st
      rw [forL_nx e st, ih']
      simp
theorem law_told (many : Nat) (h60 : many ≤ 60) : F__law_told [plD L ow rows, .int many, .lst (rs.map rowD4)] T = .ok (hdN (toldT rs ow.length many) (toldN rs (mvs rows).length many)) T := by
  have lp := told_loop P T rs hz (some (.val (.int (many : Nat)))) (List.range many) [] [] (by simp; omega) (by simp; omega)
  have := told_core T (plD L ow rows) (.lst (rs.map rowD4)) (.int (many : Nat)) _ _ _ (rgN (n := many) (by omega)) lp
  rw [this]
  simp [hdN, toldT, toldN, Function.comp_def]
end
/-! ### a hand's own rows tell it -/
theorem mem_hT {m : Nat} {t : List (Option Nat)} {r : Row} : r ∈ hT m t ↔ r.go = false ∧ r.mem = some m ∧ t[r.near]? = some (some r.far) := by
  unfold hT
  rw [List.mem_map]
  constructor
  · rintro ⟨⟨v, i⟩, h, rfl⟩
    rw [List.mem_filter] at h
    have h1 := zipIdx_mem h.1
    obtain ⟨k, hk⟩ := Option.isSome_iff_exists.mp h.2
    simp only at hk h1
    subst hk
    exact ⟨rfl, rfl, h1⟩
  · obtain ⟨go, mem, near, far⟩ := r
    rintro ⟨h1, h2, h3⟩
    simp only at h1 h2 h3
    subst h1 h2
    refine ⟨(some far, near), List.mem_filter.mpr ⟨?_, rfl⟩, rfl⟩
    rw [List.mem_zipIdx_iff_getElem?]
    exact h3
theorem mem_hN {m : Nat} {t : List Nat} {r : Row} : r ∈ hN m t ↔ r.go = true ∧ r.mem = some m ∧ t[r.near]? = some r.far ∧ r.far ≠ m := by
  unfold hN
  rw [List.mem_map]
  constructor
  · rintro ⟨⟨v, i⟩, h, rfl⟩
    rw [List.mem_filter, decide_eq_true_iff] at h
    have h1 := zipIdx_mem h.1
    simp only at h1 h
    exact ⟨rfl, rfl, h1, h.2⟩
  · obtain ⟨go, mem, near, far⟩ := r
    rintro ⟨h1, h2, h3, h4⟩
    simp only at h1 h2 h3 h4
    subst h1 h2
    refine ⟨(far, near), List.mem_filter.mpr ⟨?_, by rw [decide_eq_true_iff]; exact h4⟩, rfl⟩
    rw [List.mem_zipIdx_iff_getElem?]
    exact h3
theorem firstR_some {rs : List Row} {go : Bool} {k : Ky} {f : Nat} (h1 : ∀ r ∈ rs, fits go k r = true → r.far = f) (h2 : ∃ r ∈ rs, fits go k r = true) : firstR rs go k = some f := by
  unfold firstR
  cases e : rs.find? (fits go k) with
  | none =>
    obtain ⟨r, hr, hf⟩ := h2
    rw [List.find?_eq_none] at e
    exact absurd hf (e r hr)
  | some r => rw [Option.map_some, h1 r (List.mem_of_find?_eq_some e) (List.find?_some e)]
theorem firstR_none {rs : List Row} {go : Bool} {k : Ky} : firstR rs go k = none ↔ ∀ r ∈ rs, ¬ fits go k r = true := by
  unfold firstR
  rw [Option.map_eq_none_iff, List.find?_eq_none]
section
variable {L : Int} {ow : List Int} {rows : List (List Mv)} {many : Nat} {tk : List (List (Option Nat))} {nx : List (List Nat)} (P : PlOk L ow rows) (H : HOk ow rows many tk nx)
include P H
theorem mem_hrows {r : Row} : r ∈ hrows tk nx ↔ ∃ m, m < many ∧ r.mem = some m ∧ ((r.go = false ∧ ∃ t, tk[m]? = some t ∧ t[r.near]? = some (some r.far)) ∨ (r.go = true ∧ ∃ n, nx[m]? = some n ∧ n[r.near]? = some r.far ∧ r.far ≠ m)) := by
  unfold hrows
  rw [List.mem_flatMap]
  constructor
  · rintro ⟨m, hm, h⟩
    rw [List.mem_range, H.lt] at hm
    have hmt : m < tk.length := by rw [H.lt]; exact hm
    have hmn : m < nx.length := by rw [H.ln]; exact hm
    have e1 : tk[m]? = some tk[m] := List.getElem?_eq_getElem hmt
    have e2 : nx[m]? = some nx[m] := List.getElem?_eq_getElem hmn
    rw [hR, e1, e2, List.mem_append] at h
    rcases h with h | h
    · obtain ⟨h1, h2, h3⟩ := mem_hT.mp h
      exact ⟨m, hm, h2, .inl ⟨h1, _, e1, h3⟩⟩
    · obtain ⟨h1, h2, h3, h4⟩ := mem_hN.mp h
      exact ⟨m, hm, h2, .inr ⟨h1, _, e2, h3, h4⟩⟩
  · rintro ⟨m, hm, h2, h⟩
    have hmt : m < tk.length := by rw [H.lt]; exact hm
    have hmn : m < nx.length := by rw [H.ln]; exact hm
    have e1 : tk[m]? = some tk[m] := List.getElem?_eq_getElem hmt
    have e2 : nx[m]? = some nx[m] := List.getElem?_eq_getElem hmn
    refine ⟨m, by rw [List.mem_range, H.lt]; exact hm, ?_⟩
    rw [hR, e1, e2, List.mem_append]
    rcases h with ⟨h1, t, ht, h3⟩ | ⟨h1, n, hn, h3, h4⟩
    · rw [e1] at ht; cases ht
      exact .inl (mem_hT.mpr ⟨h1, h2, h3⟩)
    · rw [e2] at hn; cases hn
      exact .inr (mem_hN.mpr ⟨h1, h2, h3, h4⟩)
theorem hrows_ok {r : Row} (h : r ∈ hrows tk nx) (h60 : many ≤ 60) : RowOk ow rows many r := by
  obtain ⟨m, hm, h2, h⟩ := (mem_hrows P H).mp h
  have hl := P.len
  have h24 := P.n24
  have h200 := mvs_le P
  rcases h with ⟨h1, t, ht, h3⟩ | ⟨h1, n, hn, h3, h4⟩
  · have tl := H.tl t (List.mem_of_getElem? ht)
    have il := (List.getElem?_eq_some_iff.mp h3).1
    have o1 : ow[r.near]? = some ow[r.near] := List.getElem?_eq_getElem (by omega)
    have r1 : rows[r.near]? = some rows[r.near] := List.getElem?_eq_getElem (by omega)
    obtain ⟨k1, k2⟩ := H.tv t (List.mem_of_getElem? ht) r.near _ _ _ o1 h3 r1
    have o0 : ow[r.near] = 0 := by
      by_cases h0 : ow[r.near] = 0
      · exact h0
      · have := k1 h0; cases this
    obtain ⟨k, e, hk⟩ := k2 o0
    cases e
    have r24 := (P.row _ (List.mem_of_getElem? r1)).2
    exact ⟨fun m' e => by rw [h2] at e; cases e; exact hm, fun _ => ⟨by omega, by rw [o1, o0], by rw [r1]; exact hk⟩, fun e => (by rw [h1] at e; cases e), ⟨by omega, by omega⟩⟩
  · have nl := H.nl n (List.mem_of_getElem? hn)
    have il := (List.getElem?_eq_some_iff.mp h3).1
    have nv := H.nv n (List.mem_of_getElem? hn) _ (List.mem_of_getElem? h3)
    exact ⟨fun m' e => by rw [h2] at e; cases e; exact hm, fun e => (by rw [h1] at e; cases e), fun _ => ⟨by omega, nv⟩, ⟨by omega, by omega⟩⟩
theorem first_take {m p : Nat} {t : List (Option Nat)} (hm : m < many) (ht : tk[m]? = some t) (hp : p < t.length) : firstR (hrows tk nx) false (m, p) = t[p] := by
  have e : t[p]? = some t[p] := List.getElem?_eq_getElem hp
  have key : ∀ r ∈ hrows tk nx, fits false (m, p) r = true → t[p] = some r.far := fun r hr hf => by
    obtain ⟨m', hm', h2, h⟩ := (mem_hrows P H).mp hr
    rw [fits, decide_eq_true_iff] at hf
    obtain ⟨f1, f2, f3⟩ := hf
    simp only [h2, reduceCtorEq, Option.some.injEq, false_or] at f2 f3
    subst f2
    rcases h with ⟨_, t', ht', h3⟩ | ⟨h1, _⟩
    · rw [ht] at ht'; cases ht'
      rw [f3, e] at h3
      exact Option.some.inj h3
    · rw [f1] at h1; cases h1
  cases et : t[p] with
  | none =>
    rw [firstR_none]
    intro r hr hf
    have := key r hr hf
    rw [et] at this; cases this
  | some f =>
    refine firstR_some (fun r hr hf => ?_) ⟨⟨false, some m, p, f⟩, (mem_hrows P H).mpr ⟨m, hm, rfl, .inl ⟨rfl, t, ht, by rw [e, et]⟩⟩, by simp [fits]⟩
    have := key r hr hf
    rw [et] at this
    exact (Option.some.inj this).symm
theorem first_next {m p : Nat} {n : List Nat} (hm : m < many) (hn : nx[m]? = some n) (hp : p < n.length) : (firstR (hrows tk nx) true (m, p)).getD m = n[p] := by
  have e : n[p]? = some n[p] := List.getElem?_eq_getElem hp
  have key : ∀ r ∈ hrows tk nx, fits true (m, p) r = true → n[p] = r.far ∧ r.far ≠ m := fun r hr hf => by
    obtain ⟨m', hm', h2, h⟩ := (mem_hrows P H).mp hr
    rw [fits, decide_eq_true_iff] at hf
    obtain ⟨f1, f2, f3⟩ := hf
    simp only [h2, reduceCtorEq, Option.some.injEq, false_or] at f2 f3
    subst f2
    rcases h with ⟨h1, _⟩ | ⟨_, n', hn', h3, h4⟩
    · rw [f1] at h1; cases h1
    · rw [hn] at hn'; cases hn'
      rw [f3, e] at h3
      exact ⟨Option.some.inj h3, h4⟩
  by_cases h0 : n[p] = m
  · have : firstR (hrows tk nx) true (m, p) = none := by
      rw [firstR_none]
      intro r hr hf
      obtain ⟨k1, k2⟩ := key r hr hf
      exact k2 (by rw [← k1]; exact h0)
    rw [this]; exact h0.symm
  · have : firstR (hrows tk nx) true (m, p) = some n[p] := firstR_some (fun r hr hf => (key r hr hf).1.symm) ⟨⟨true, some m, p, n[p]⟩, (mem_hrows P H).mpr ⟨m, hm, rfl, .inr ⟨rfl, n, hn, e, h0⟩⟩, by simp [fits]⟩
    rw [this]; rfl
theorem told_hrows : toldT (hrows tk nx) ow.length many = tk ∧ toldN (hrows tk nx) (mvs rows).length many = nx := by
  constructor
  · apply List.ext_getElem
    · rw [toldT, List.length_map, List.length_range, H.lt]
    · intro m h1 h2
      have hm : m < many := by rw [← H.lt]; exact h2
      have tl := H.tl _ (List.getElem_mem h2)
      simp only [toldT, List.getElem_map, List.getElem_range]
      apply List.ext_getElem
      · rw [List.length_map, List.length_range, tl]
      · intro p h3 h4
        simp only [List.getElem_map, List.getElem_range]
        exact first_take P H hm (List.getElem?_eq_getElem h2) h4
  · apply List.ext_getElem
    · rw [toldN, List.length_map, List.length_range, H.ln]
    · intro m h1 h2
      have hm : m < many := by rw [← H.ln]; exact h2
      have nl := H.nl _ (List.getElem_mem h2)
      simp only [toldN, List.getElem_map, List.getElem_range]
      apply List.ext_getElem
      · rw [List.length_map, List.length_range, nl]
      · intro p h3 h4
        simp only [List.getElem_map, List.getElem_range]
        exact first_next P H hm (List.getElem?_eq_getElem h2) h4
theorem hrows_all (m p : Nat) (hm : m < many) (hp : ow[p]? = some 0) : firstR (hrows tk nx) false (m, p) ≠ none := by
  have hmt : m < tk.length := by rw [H.lt]; exact hm
  have tl := H.tl _ (List.getElem_mem hmt)
  have pl := (List.getElem?_eq_some_iff.mp hp).1
  have hl := P.len
  rw [first_take P H hm (List.getElem?_eq_getElem hmt) (by omega : p < tk[m].length)]
  have r1 : rows[p]? = some rows[p] := List.getElem?_eq_getElem (by omega)
  obtain ⟨k, e, _⟩ := (H.tv _ (List.getElem_mem hmt) p 0 _ _ hp (List.getElem?_eq_getElem (by omega)) r1).2 rfl
  rw [e]
  simp
end
end K75
set_option Elab.async false
set_option linter.all false
set_option maxRecDepth 100000
set_option maxHeartbeats 4000000
namespace K75
open PySem L2 DL SX
theorem hot_text {pl : D} {txt : List Nat} {T : Store} (wp : F_want_plant [pl] T = .ok pl T) : F_hand_of_text [pl, tx txt] T = F_hand_in [pl, tx txt] T := by
  simp [F_hand_of_text, fnOf, g_hand_of_text, wp, Kd.isa]
  cases F_hand_in [pl, tx txt] T <;> simp
theorem hot_odd {pl x : D} {T : Store} (k : Kd) (hk : kdOf T x = some k) (hs : k.isa .str = false) (wp : F_want_plant [pl] T = .ok pl T) : F_hand_of_text [pl, x] T = .ex "InvalidText" [("value", x)] T := by
  simp [F_hand_of_text, fnOf, g_hand_of_text, wp, hk, hs]
def badD (k : Int) : D := .lst [.str "bad", .int k, .bl true]
theorem heard_bad {pl x : D} {T T' : Store} {k : Int} (h : F_hand_of_text [pl, x] T = .ex "BadText" [("line", .int k)] T') : F__law_heard [pl, x] T = .ok (badD k) T' := by
  simp [F__law_heard, fnOf, g__law_heard, mX, h, badD, sTryM, runCl, apartM, List.lookup]
theorem heard_text {pl x : D} {T T' : Store} (h : F_hand_of_text [pl, x] T = .ex "InvalidText" [("value", x)] T') : F__law_heard [pl, x] T = .ok (.lst [.str "text", x, .bl true]) T' := by
  have hne : ¬ (("InvalidText" : PySem.Str) = "BadText") := by decide +kernel
  simp [hne, F__law_heard, fnOf, g__law_heard, mX, h, sTryM, runCl, apartM, List.lookup]
theorem heard_ok {pl x d : D} {T T' : Store} (h : F_hand_of_text [pl, x] T = .ok d T') : F__law_heard [pl, x] T = .ok d T' := by
  simp [F__law_heard, fnOf, g__law_heard, mX, h, sTryM, runCl, apartM, List.lookup]
/-! ### texts of lines -/
structure LinesOk (ls : List (List Nat)) : Prop where
  wok : ∀ l ∈ ls, WOk 200 l
  len : ls.length ≤ 4000
theorem sum_le {ls : List (List Nat)} (h : ∀ l ∈ ls, WOk 200 l) : (ls.map List.length).sum ≤ 200 * ls.length := by
  induction ls with
  | nil => simp
  | cons a r ih =>
    have h1 := ih fun l hl => h l (by simp [hl])
    have h2 := (h a (by simp)).1
    simp only [List.map_cons, List.sum_cons, List.length_cons, Nat.mul_add]
    omega
theorem good_jn {ls : List (List Nat)} (h : LinesOk ls) : Good (jn 10 ls) := by
  refine ⟨?_, fun x hx => ?_⟩
  · have h1 := jn_length 10 ls
    have h2 := sum_le h.wok
    have h3 := h.len
    omega
  · rcases mem_jn hx with h1 | ⟨l, h1, h2⟩
    · omega
    · exact (h.wok l h1).2.2 x h2
theorem spl_lines {ls : List (List Nat)} (h : LinesOk ls) (hne : ls ≠ []) : spl 10 (jn 10 ls) = ls := spl_jn hne fun l hl => (h.wok l hl).2.1
theorem wok_mono {m n : Nat} {l : List Nat} (h : WOk m l) (hmn : m ≤ n) : WOk n l := ⟨Nat.le_trans h.1 hmn, h.2⟩
theorem lok_snoc {ls : List (List Nat)} (h : LinesOk ls) (hl : ls.length < 4000) : LinesOk (ls ++ [[]]) := ⟨fun l hl => by
  rcases List.mem_append.mp hl with h1 | h1
  · exact h.wok l h1
  · simp at h1; subst h1; unfold WOk; simp, by simp; omega⟩
theorem lns_end (ls : List (List Nat)) : lns ls [] = ls := by simp [lns]
theorem lns_open {ini : List (List Nat)} {last : List Nat} (h : last ≠ []) : lns ini last = ini ++ [last] := by simp [lns, h]
section
variable {L : Int} {ow : List Int} {rows : List (List Mv)} (P : PlOk L ow rows) (T : Store)
include P
/-- what is heard of lines with all line feeds -/
theorem heard_first {ls : List (List Nat)} (h : LinesOk ls) (hl : ls.length < 4000) (h0 : mmOf ls = none) : F__law_heard [plD L ow rows, tx (jn 10 (ls ++ [[]]))] T = .ok (badD 0) T := by
  have hk := lok_snoc h hl
  have e := hand_in_first P (jn 10 (ls ++ [[]])) ls [] (good_jn hk) (spl_lines hk (by simp)) T (by rw [lns_end]; exact h0)
  exact heard_bad (by rw [hot_text (want_plant T P)]; exact e)
theorem heard_first' {ls : List (List Nat)} {last : List Nat} (h : LinesOk (ls ++ [last])) (hne : last ≠ []) (h0 : mmOf (ls ++ [last]) = none) : F__law_heard [plD L ow rows, tx (jn 10 (ls ++ [last]))] T = .ok (badD 0) T := by
  have e := hand_in_first P (jn 10 (ls ++ [last])) ls last (good_jn h) (spl_lines h (by simp)) T (by rw [lns_open hne]; exact h0)
  exact heard_bad (by rw [hot_text (want_plant T P)]; exact e)
variable {l0 : List Nat} {many : Nat} (h0 : MIw (spl 32 l0) = some many)
include h0
theorem heard_row {ls pre post : List (List Nat)} {b : List Nat} (hls : ls = l0 :: (pre ++ b :: post)) (h : LinesOk ls) (hl : ls.length < 4000) {rs : List Row} (hr : pre.map (fun l => LIw ow rows many (spl 32 l)) = rs.map some) (hb : LIw ow rows many (spl 32 b) = none) :
    F__law_heard [plD L ow rows, tx (jn 10 (ls ++ [[]]))] T = .ok (badD ((pre.length : Nat) + 1)) T := by
  have hk := lok_snoc h hl
  have e := hand_in_row P (jn 10 (ls ++ [[]])) ls [] (good_jn hk) (spl_lines hk (by simp)) T l0 many h0 pre post b (by rw [lns_end]; exact hls) rs hr hb
  exact heard_bad (by rw [hot_text (want_plant T P)]; exact e)
theorem heard_row' {ls pre post : List (List Nat)} {b last : List Nat} (hls : ls ++ [last] = l0 :: (pre ++ b :: post)) (hne : last ≠ []) (h : LinesOk (ls ++ [last])) {rs : List Row} (hr : pre.map (fun l => LIw ow rows many (spl 32 l)) = rs.map some) (hb : LIw ow rows many (spl 32 b) = none) :
    F__law_heard [plD L ow rows, tx (jn 10 (ls ++ [last]))] T = .ok (badD ((pre.length : Nat) + 1)) T := by
  have e := hand_in_row P (jn 10 (ls ++ [last])) ls last (good_jn h) (spl_lines h (by simp)) T l0 many h0 pre post b (by rw [lns_open hne]; exact hls) rs hr hb
  exact heard_bad (by rw [hot_text (want_plant T P)]; exact e)
variable (h60 : many ≤ 60) {rs : List Row} (hn : rs.length < 3900)
include h60 hn
theorem heard_less {ls tl : List (List Nat)} (hls : ls = l0 :: tl) (h : LinesOk ls) (hl : ls.length < 4000) (hr : tl.map (fun l => LIw ow rows many (spl 32 l)) = rs.map some) (hx : ∃ m p, m < many ∧ ow[p]? = some 0 ∧ firstR rs false (m, p) = none) :
    ∃ T', F__law_heard [plD L ow rows, tx (jn 10 (ls ++ [[]]))] T = .ok (badD (ls.length : Nat)) T' ∧ Evo T T' := by
  have hk := lok_snoc h hl
  have e := hand_in_less P (jn 10 (ls ++ [[]])) ls [] (good_jn hk) (spl_lines hk (by simp)) T l0 many h0 tl (by rw [lns_end]; exact hls) rs hr h60 (by omega) hx
  rw [lns_end] at e
  exact ⟨_, heard_bad (by rw [hot_text (want_plant T P)]; exact e), Evo.app _ _ (nl_tabs _ _)⟩
theorem heard_less' {ls tl : List (List Nat)} {last : List Nat} (hls : ls ++ [last] = l0 :: tl) (hne : last ≠ []) (h : LinesOk (ls ++ [last])) (hr : tl.map (fun l => LIw ow rows many (spl 32 l)) = rs.map some) (hx : ∃ m p, m < many ∧ ow[p]? = some 0 ∧ firstR rs false (m, p) = none) :
    ∃ T', F__law_heard [plD L ow rows, tx (jn 10 (ls ++ [last]))] T = .ok (badD ((ls ++ [last]).length : Nat)) T' ∧ Evo T T' := by
  have e := hand_in_less P (jn 10 (ls ++ [last])) ls last (good_jn h) (spl_lines h (by simp)) T l0 many h0 tl (by rw [lns_open hne]; exact hls) rs hr h60 (by omega) hx
  rw [lns_open hne] at e
  exact ⟨_, heard_bad (by rw [hot_text (want_plant T P)]; exact e), Evo.app _ _ (nl_tabs _ _)⟩
variable (hall : ∀ m p, m < many → ow[p]? = some 0 → firstR rs false (m, p) ≠ none)
include hall
theorem heard_open {ls tl : List (List Nat)} {last : List Nat} (hls : ls ++ [last] = l0 :: tl) (hne : last ≠ []) (h : LinesOk (ls ++ [last])) (hr : tl.map (fun l => LIw ow rows many (spl 32 l)) = rs.map some) :
    ∃ T', F__law_heard [plD L ow rows, tx (jn 10 (ls ++ [last]))] T = .ok (badD (((ls ++ [last]).length : Nat) - 1)) T' ∧ Evo T T' := by
  have e := hand_in_open P (jn 10 (ls ++ [last])) ls last (good_jn h) (spl_lines h (by simp)) T l0 many h0 tl (by rw [lns_open hne]; exact hls) rs hr h60 (by omega) hall hne
  rw [lns_open hne] at e
  exact ⟨_, heard_bad (by rw [hot_text (want_plant T P)]; exact e), Evo.app _ _ (nl_tabs _ _)⟩
theorem hot_hand {ls tl : List (List Nat)} (hls : ls = l0 :: tl) (h : LinesOk ls) (hl : ls.length < 4000) (hr : tl.map (fun l => LIw ow rows many (spl 32 l)) = rs.map some) :
    ∃ T', F_hand_of_text [plD L ow rows, tx (jn 10 (ls ++ [[]]))] T = .ok (hdN (toldT rs ow.length many) (toldN rs (mvs rows).length many)) T' ∧ Evo T T' := by
  have hk := lok_snoc h hl
  have e := hand_in_hand P (jn 10 (ls ++ [[]])) ls [] (good_jn hk) (spl_lines hk (by simp)) T l0 many h0 tl (by rw [lns_end]; exact hls) rs hr h60 (by omega) hall rfl
  exact ⟨_, by rw [hot_text (want_plant T P)]; exact e, Evo.app _ _ (nl_tabs _ _)⟩
end
end K75
set_option Elab.async false
set_option linter.all false
set_option maxRecDepth 100000
set_option maxHeartbeats 4000000
namespace K75
open PySem L2 DL SX
theorem pw_zip {α : Type} {R : α → α → Prop} : ∀ {l : List α}, l.Pairwise R → ∀ p ∈ l.zip l.tail, R p.1 p.2
  | [], _, p, hp => by simp at hp
  | [a], _, p, hp => by simp at hp
  | a :: b :: l, h, p, hp => by
    rw [List.pairwise_cons] at h
    simp only [List.tail_cons, List.zip_cons_cons, List.mem_cons] at hp
    rcases hp with rfl | hp
    · exact h.1 b (by simp)
    · exact pw_zip h.2 p (by simpa using hp)
theorem insS_length (x : List Int) : ∀ l : List (List Int), (insS x l).length ≤ l.length + 1 ∧ 1 ≤ (insS x l).length
  | [] => by simp [insS]
  | y :: l => by
    have := insS_length x l
    unfold insS
    split
    · simp
    · split <;> simp <;> omega
theorem sortS_length : ∀ l : List (List Int), (sortS l).length ≤ l.length ∧ (l ≠ [] → 1 ≤ (sortS l).length)
  | [] => by simp [sortS]
  | x :: l => by
    have h1 := insS_length x (sortS l)
    have h2 := (sortS_length l).1
    unfold sortS
    refine ⟨by simp; omega, fun _ => ?_⟩
    omega
abbrev l2 (p : Mv) : List Int := [p.1, p.2]
def toP (ns : List Int) : Mv := (ns.getD 0 0, ns.getD 1 0)
theorem sort_row (ps : List Mv) (hb : ∀ p ∈ ps, 0 ≤ p.1 ∧ p.1 < 10 ∧ 0 ≤ p.2 ∧ p.2 < 10) (hne : ps ≠ []) :
    ∃ r : List Mv, (sortS (ps.map l2)).map tupI = r.map tI2 ∧ 1 ≤ r.length ∧ r.length ≤ ps.length ∧ (∀ m ∈ r, m ∈ ps) ∧ ∀ p ∈ r.zip r.tail, HT.lexLt [p.1.1, p.1.2] [p.2.1, p.2.2] = true := by
  have bd : BdAll 2 10 (ps.map l2) := fun z hz => by
    obtain ⟨p, hp, rfl⟩ := List.mem_map.mp hz
    have := hb p hp
    refine ⟨rfl, fun m hm => ?_⟩
    simp at hm
    rcases hm with rfl | rfl <;> omega
  have mem : ∀ z ∈ sortS (ps.map l2), ∃ p ∈ ps, z = l2 p := fun z hz => by
    obtain ⟨p, hp, e⟩ := List.mem_map.mp (mem_sortS.mp hz)
    exact ⟨p, hp, e.symm⟩
  have hl := sortS_length (ps.map l2)
  refine ⟨(sortS (ps.map l2)).map toP, ?_, ?_, ?_, fun m hm => ?_, fun p hp => ?_⟩
  · rw [List.map_map]
    refine List.map_congr_left fun z hz => ?_
    obtain ⟨p, _, rfl⟩ := mem z hz
    rfl
  · rw [List.length_map]; exact hl.2 (by simpa using hne)
  · rw [List.length_map]; have := hl.1; rwa [List.length_map] at this
  · obtain ⟨z, hz, rfl⟩ := List.mem_map.mp hm
    obtain ⟨p, hp, rfl⟩ := mem z hz
    exact hp
  · rw [← List.map_tail, List.zip_map] at hp
    obtain ⟨⟨z1, z2⟩, hq, rfl⟩ := List.mem_map.mp hp
    have lt := pw_zip (incr_sortS bd) _ hq
    obtain ⟨p1, _, rfl⟩ := mem z1 (List.of_mem_zip hq).1
    obtain ⟨p2, _, rfl⟩ := mem z2 (List.mem_of_mem_tail (List.of_mem_zip hq).2)
    have b1 := bd (l2 p1) (List.mem_map.mpr ⟨p1, ‹_›, rfl⟩)
    have b2 := bd (l2 p2) (List.mem_map.mpr ⟨p2, ‹_›, rfl⟩)
    exact (lexLt_code (B := 10) (xs := l2 p1) (ys := l2 p2) rfl b1.2 b2.2).mpr lt
theorem tupsOf_pairs : ∀ ps : List Mv, tupsOf (ps.map tI2) = some (ps.map l2)
  | [] => rfl
  | p :: ps => by simp [tupsOf, tI2, intsOf, tupsOf_pairs ps]
theorem ssOk_pairs (ps : List Mv) (hl : ps.length < 64) (hb : ∀ p ∈ ps, 0 ≤ p.1 ∧ p.1 < 10 ∧ 0 ≤ p.2 ∧ p.2 < 10) : ssOk 2 10 (ps.map l2) = true := by
  unfold ssOk
  simp [hl]
  intro a b h
  have := hb (a, b) h
  simp at this
  omega
theorem pairs_of {A B : Int} : ∀ (xs : List D), (∀ x ∈ xs, ∃ p : Mv, x = tI2 p ∧ 0 ≤ p.1 ∧ p.1 < A ∧ 0 ≤ p.2 ∧ p.2 < B) → ∃ ps : List Mv, xs = ps.map tI2 ∧ ∀ p ∈ ps, 0 ≤ p.1 ∧ p.1 < A ∧ 0 ≤ p.2 ∧ p.2 < B
  | [], _ => ⟨[], rfl, fun _ h => by cases h⟩
  | x :: xs, h => by
    obtain ⟨p, rfl, hp⟩ := h x (by simp)
    obtain ⟨ps, rfl, h2⟩ := pairs_of xs fun y hy => h y (by simp [hy])
    exact ⟨p :: ps, rfl, fun q hq => by
      rcases List.mem_cons.mp hq with rfl | hq
      · exact hp
      · exact h2 q hq⟩
theorem rngD_get {lo : Int} {n i : Nat} {d : D} (h : (rngD lo n)[i]? = some d) : i < n ∧ d = .int (lo + (i : Int)) := by
  rw [rngD_eq, List.getElem?_map] at h
  cases e : (List.range n)[i]? with
  | none => rw [e] at h; cases h
  | some j =>
    rw [e] at h
    cases h
    have := List.getElem?_eq_some_iff.mp e
    obtain ⟨h1, h2⟩ := this
    simp at h1 h2
    subst h2
    exact ⟨h1, rfl⟩

/-- so much of a plant is drawn -/
structure PlPre (L n : Int) (i : Nat) (ow : List Int) (rows : List (List Mv)) : Prop where
  lo : ow.length = i
  lr : rows.length = i
  own : ∀ o ∈ ow, 0 ≤ o ∧ o < 2
  row : ∀ r ∈ rows, 1 ≤ r.length ∧ r.length ≤ 4
  mv : ∀ r ∈ rows, ∀ m ∈ r, 0 ≤ m.1 ∧ m.1 < L ∧ 0 ≤ m.2 ∧ m.2 < n
  inc : ∀ r ∈ rows, ∀ p ∈ r.zip r.tail, HT.lexLt [p.1.1, p.1.2] [p.2.1, p.2.2] = true
def plG (p : Nat) (L n : Int) (ow : List Int) (rows : List (List Mv)) : Gm := [some (.val (.loc p)), some (.val (.int L)), some (.val (.int n)), some (.own (.lst (ow.map .int))), some (.own (.lst (rows.map rowD))), none, none, none]
theorem plant_step {L n : Int} (hL1 : 1 ≤ L) (hL : L ≤ 4) (hn1 : 1 ≤ n) (hn : n ≤ 6) {S : Store} {p : Nat} (hp : Pot S p) {i : Nat} {ow : List Int} {rows : List (List Mv)} (h : PlPre L n i ow rows) (hi : i < 6) (x5 : D) :
    ∃ ow' rows' S', b1__law_plant [some (.val (.loc p)), some (.val (.int L)), some (.val (.int n)), some (.own (.lst (ow.map .int))), some (.own (.lst (rows.map rowD))), some (.val x5), none, none] S =
      .nx (plG p L n ow' rows') S' ∧ Evo S S' ∧ PlPre L n (i + 1) ow' rows' := by
  obtain ⟨d, S1, e1, v1, d0, d1⟩ := draw hp (m := 2) (by omega) (by omega)
  obtain ⟨c, S2, e2, v2, c0, c1⟩ := draw (v1.1 p hp) (m := 4) (by omega) (by omega)
  have v12 := v1.trans v2
  have lc := lcL_inv (t := lt1__law_plant) (f := lf1__law_plant) (Γ := [some (.val (.loc p)), some (.val (.int L)), some (.val (.int n)), some (.own (.lst (ow.map .int ++ [.int d]))), some (.own (.lst (rows.map rowD))), some (.val x5), none, none]) (fun S' => Evo S S')
    (fun x => ∃ p : Mv, x = tI2 p ∧ 0 ≤ p.1 ∧ p.1 < L ∧ 0 ≤ p.2 ∧ p.2 < n) (rngD 0 (1 + c).toNat) S2 v12 fun dd hd S' hS => by
      obtain ⟨a, S3, e3, v3, a0, a1⟩ := draw (hS.1 p hp) (m := L) (by omega) (by omega)
      obtain ⟨b, S4, e4, v4, b0, b1⟩ := draw (v3.1 p (hS.1 p hp)) (m := n) (by omega) (by omega)
      refine ⟨tI2 (a, b), S4, ?_, hS.trans (v3.trans v4), (a, b), rfl, a0, a1, b0, b1⟩
      simp [lt1__law_plant, lf1__law_plant, e3, e4, tI2]
  obtain ⟨xs, S3, e3, v3, lx, px⟩ := lc
  obtain ⟨ps, rfl, pb⟩ := pairs_of xs px
  have lps : ps.length = (1 + c).toNat := by simpa [rngD] using lx
  have hb : ∀ p ∈ ps, 0 ≤ p.1 ∧ p.1 < 10 ∧ 0 ≤ p.2 ∧ p.2 < 10 := fun p hp => by have := pb p hp; omega
  have hne : ps ≠ [] := fun z => by subst z; simp at lps; omega
  obtain ⟨r, er, r1, r2, r3, r4⟩ := sort_row ps hb hne
  have ok := ssOk_pairs ps (by omega) hb
  have lrn : (rngD 0 (1 + c).toNat).length ≤ 16777216 := by simp [rngD]; omega
  have g1 : ow.length < 16777216 := by have := h.lo; omega
  have g2 : rows.length < 16777216 := by have := h.lr; omega
  have rg := range1 (n := 1 + c) (by omega) (by omega)
  refine ⟨ow ++ [d], rows ++ [r], S3, ?_, v3, ⟨by simp [h.lo], by simp [h.lr], fun o ho => ?_, fun q hq => ?_, fun q hq => ?_, fun q hq => ?_⟩⟩
  · have er' : rowD r = .tup ((sortS (ps.map l2)).map tupI) := by rw [er]; rfl
    generalize rngD 0 (1 + c).toNat = zz at *
    generalize hcc : 1 + c = cc at *
    simp [b1__law_plant, plG, e1, e2, g1, g2, lrn, e3, tupsOf_pairs, ok, rg, er', hcc]
  · rcases List.mem_append.mp ho with ho | ho
    · exact h.own o ho
    · simp at ho; subst ho; exact ⟨d0, d1⟩
  · rcases List.mem_append.mp hq with hq | hq
    · exact h.row q hq
    · simp at hq; subst hq; exact ⟨r1, by omega⟩
  · rcases List.mem_append.mp hq with hq | hq
    · exact h.mv q hq
    · simp at hq; subst hq; exact fun m hm => pb m (r3 m hm)
  · rcases List.mem_append.mp hq with hq | hq
    · exact h.inc q hq
    · simp at hq; subst hq; exact r4
theorem plant_core {L : Int} (n : Int) {S S1 : Store} {p : Nat} (zs : List D) (ow : List Int) (rows : List (List Mv)) (rg : rangeD [.int n] = some zs) (e : forL t1__law_plant b1__law_plant zs (plG p L n [] []) S = .nx (plG p L n ow rows) S1) :
    F__law_plant [.loc p, .int L, .int n] S = .ok (plD L ow rows) S1 := by
  simp only [plG, List.map_nil] at e
  simp [F__law_plant, fnOf, g__law_plant, rg, e, plD, setM]
theorem law_plant {L n : Int} (hL1 : 1 ≤ L) (hL : L ≤ 4) (hn1 : 1 ≤ n) (hn : n ≤ 6) {S : Store} {p : Nat} (hp : Pot S p) :
    ∃ ow rows S', F__law_plant [.loc p, .int L, .int n] S = .ok (plD L ow rows) S' ∧ Evo S S' ∧ PlOk L ow rows ∧ (rows.length : Int) = n ∧ ∀ r ∈ rows, r.length ≤ 4 := by
  obtain ⟨Γ, S1, e, I⟩ := forL_inv (t := t1__law_plant) (body := b1__law_plant) (fun i Γ S' => ∃ ow rows, Γ = plG p L n ow rows ∧ Evo S S' ∧ PlPre L n i ow rows)
    (rngD 0 n.toNat) 0 (plG p L n [] []) S ⟨[], [], rfl, Evo.refl S, ⟨rfl, rfl, fun _ h => (by cases h), fun _ h => (by cases h), fun _ h => (by cases h), fun _ h => (by cases h)⟩⟩
    fun i d Γ S' hd ⟨ow, rows, eΓ, hS, pre⟩ => by
      obtain ⟨hi, rfl⟩ := rngD_get hd
      obtain ⟨ow', rows', S'', e1, e2, e3⟩ := plant_step hL1 hL hn1 hn (hS.1 p hp) (i := i) (by simpa using pre) (by omega) (.int (0 + (i : Int)))
      refine ⟨_, _, S'', ?_, e1, ow', rows', rfl, hS.trans e2, by simpa using e3⟩
      subst eΓ
      simp [t1__law_plant, plG]
  obtain ⟨ow, rows, rfl, hS1, pre⟩ := I
  have hlen : (rngD 0 n.toNat).length = n.toNat := by simp [rngD]
  rw [hlen, Nat.zero_add] at pre
  have rg := range1 (n := n) (by omega) (by omega)
  have tot : ∀ l : List (List Mv), (∀ r ∈ l, 1 ≤ r.length ∧ r.length ≤ 4) → (l.map List.length).sum ≤ 4 * l.length := fun l h => by
    induction l with
    | nil => simp
    | cons a l ih =>
      have := ih fun r hr => h r (by simp [hr])
      have := (h a (by simp)).2
      simp only [List.map_cons, List.sum_cons, List.length_cons]
      omega
  have t := tot rows pre.row
  have hr := pre.lr
  have ho := pre.lo
  exact ⟨ow, rows, S1, plant_core n (rngD 0 n.toNat) ow rows rg e, hS1, ⟨hL1, hL, by omega, by omega, by omega, pre.own, fun r h => by have := pre.row r h; omega, fun r h m hm => by have := pre.mv r h m hm; omega, pre.inc, by omega⟩, by omega, fun r h => (pre.row r h).2⟩
end K75
set_option Elab.async false
set_option linter.all false
set_option maxRecDepth 100000
set_option maxHeartbeats 4000000
namespace K75
open PySem L2 DL SX
theorem drawN {S : Store} {p : Nat} {m : Nat} (h : Pot S p) (h1 : 1 ≤ m) (h2 : m < 1073741824) : ∃ (d : Nat) (S' : Store), F__law_draw [.loc p, .int (m : Int)] S = .ok (.int (d : Int)) S' ∧ Evo S S' ∧ d < m := by
  obtain ⟨d, S', e, v, d0, d1⟩ := draw h (m := (m : Int)) (by omega) (by omega)
  obtain ⟨k, rfl⟩ : ∃ k : Nat, d = k := ⟨d.toNat, by omega⟩
  exact ⟨k, S', e, v, by omega⟩
theorem nats_bd {B : Nat} : ∀ (xs : List D), (∀ x ∈ xs, ∃ k : Nat, x = iD k ∧ k < B) → ∃ ks : List Nat, xs = ks.map iD ∧ ∀ k ∈ ks, k < B
  | [], _ => ⟨[], rfl, fun _ h => by cases h⟩
  | x :: xs, h => by
    obtain ⟨k, rfl, hk⟩ := h x (by simp)
    obtain ⟨ks, rfl, h2⟩ := nats_bd xs fun y hy => h y (by simp [hy])
    exact ⟨k :: ks, rfl, fun q hq => by
      rcases List.mem_cons.mp hq with rfl | hq
      · exact hk
      · exact h2 q hq⟩
def TkPre (ow : List Int) (rows : List (List Mv)) (i : Nat) (t : List (Option Nat)) : Prop := t.length = i ∧ ∀ (j : Nat) (o : Int) (v : Option Nat) (r : List Mv), ow[j]? = some o → t[j]? = some v → rows[j]? = some r →
  (o ≠ 0 → v = none) ∧ (o = 0 → ∃ k, v = some k ∧ k < r.length)
def tkG (p : Nat) (pl mD mem : D) (so1 so2 : SO) (t : List D) : Gm := [some (.val (.loc p)), some (.val pl), some (.val mD), some (.own so1), some (.own so2), some (.val mem), some (.own (.lst t)), none, none, none]
section
variable {L : Int} {ow : List Int} {rows : List (List Mv)}
theorem take_loop (P : PlOk L ow rows) (mD mem : D) {S : Store} {p : Nat} (hp : Pot S p) (so1 so2 : SO) :
    ∃ t S', forL t1__law_hand b1__law_hand (zips (ow.map .int) (rows.map rowD)) (tkG p (plD L ow rows) mD mem so1 so2 []) S =
      .nx (tkG p (plD L ow rows) mD mem so1 so2 (t.map opN)) S' ∧ Evo S S' ∧ TkPre ow rows ow.length t := by
  obtain ⟨Γ, S1, e, I⟩ := forL_inv (t := t1__law_hand) (body := b1__law_hand) (fun i Γ S' => ∃ t, Γ = tkG p (plD L ow rows) mD mem so1 so2 (t.map opN) ∧ Evo S S' ∧ TkPre ow rows i t)
    (zips (ow.map .int) (rows.map rowD)) 0 (tkG p (plD L ow rows) mD mem so1 so2 []) S ⟨[], rfl, Evo.refl S, rfl, fun j o v r _ h _ => by simp at h⟩
    fun i d Γ S' hd ⟨t, eΓ, hS, tl, tv⟩ => by
      rw [zips_map, List.getElem?_map] at hd
      cases hz : (ow.zip rows)[i]? with
      | none => rw [hz] at hd; cases hd
      | some q =>
        obtain ⟨o, r⟩ := q
        rw [hz] at hd
        cases hd
        obtain ⟨ho, hr⟩ := List.getElem?_zip_eq_some.mp hz
        have ho : ow[i]? = some o := ho
        have hr : rows[i]? = some r := hr
        have rb := P.row r (List.mem_of_getElem? hr)
        have hil := (List.getElem?_eq_some_iff.mp hr).1
        have hn := P.n24
        have g1 : t.length < 16777216 := by omega
        have ext : ∀ v : Option Nat, ((o ≠ 0 → v = none) ∧ (o = 0 → ∃ k, v = some k ∧ k < r.length)) → TkPre ow rows (0 + i + 1) (t ++ [v]) := fun v hv => by
          refine ⟨by simp [tl], fun j o' v' r' h1 h2 h3 => ?_⟩
          by_cases hj : j < t.length
          · rw [List.getElem?_append_left hj] at h2
            exact tv j o' v' r' h1 h2 h3
          · have hji : j = i := by
              have := (List.getElem?_eq_some_iff.mp h2).1
              simp at this
              omega
            subst hji
            rw [List.getElem?_append_right (by omega), show j - t.length = 0 by omega] at h2
            cases h2
            rw [ho] at h1
            rw [hr] at h3
            cases h1
            cases h3
            exact hv
        subst eΓ
        by_cases h : o = 0
        · obtain ⟨c, S2, e2, v2, c1⟩ := drawN (hS.1 p hp) (m := r.length) (by omega) (by omega)
          refine ⟨_, _, S2, by simp [t1__law_hand, tkG]; rfl, ?_, t ++ [some c], rfl, hS.trans v2, ext _ ⟨fun z => absurd h z, fun _ => ⟨c, rfl, c1⟩⟩⟩
          simp [b1__law_hand, h, rowD, e2, g1, opN, tkG]
        · refine ⟨_, _, S', by simp [t1__law_hand, tkG]; rfl, ?_, t ++ [none], rfl, hS, ext _ ⟨fun _ => rfl, fun z => absurd z h⟩⟩
          simp [b1__law_hand, h, rowD, g1, opN, tkG]
  obtain ⟨t, rfl, hS1, pre⟩ := I
  refine ⟨t, S1, e, hS1, ?_⟩
  have hl : (zips (ow.map D.int) (rows.map rowD)).length = ow.length := by rw [zips_length]; simp [P.len]
  rw [hl, Nat.zero_add] at pre
  exact pre
theorem hand_step_core {S S2 S3 : Store} {p m : Nat} {pl mD : D} {ak an owl rwl zs t xs mvl : List D} (h2 : oIx S pl (.int 2) = some (.tup owl)) (h3 : oIx S pl (.int 3) = some (.tup rwl)) (hz : zips owl rwl = zs)
    (e2 : forL t1__law_hand b1__law_hand zs (tkG p pl mD (iD m) (.lst ak) (.lst an) []) S = .nx (tkG p pl mD (iD m) (.lst ak) (.lst an) t) S2)
    (em : F__law_moves [pl] S2 = .ok (.lst mvl) S2) (hm : mvl.length ≤ 16777216) (ha : ak.length < 16777216) (hb : an.length < 16777216)
    (e3 : ∀ x3, lcL lt1__law_hand bYes lf1__law_hand [some (.val (.loc p)), some (.val pl), some (.val mD), x3, some (.own (.lst an)), some (.val (iD m)), some (.val (.lst t)), none, none, none] mvl S2 = .ok xs S3) :
    (t2__law_hand.run (iD m) [some (.val (.loc p)), some (.val pl), some (.val mD), some (.own (.lst ak)), some (.own (.lst an)), none, none, none, none, none]).elim .no (fun Γ => b2__law_hand Γ S) =
      .nx [some (.val (.loc p)), some (.val pl), some (.val mD), some (.own (.lst (ak ++ [.tup t]))), some (.own (.lst (an ++ [.tup xs]))), none, none, none, none, none] S3 := by
  simp only [tkG] at e2
  simp [t2__law_hand, b2__law_hand, h2, h3, hz, e2, em, hm, ha, hb, e3]
theorem pick2 {S : Store} {p m B : Nat} (hp : Pot S p) (hm : m < B) (hB : B < 100000) : ∃ (k : Nat) (S' : Store), k < B ∧ Evo S S' ∧ ∀ (x1 x3 x4 x6 : Option Sl) (d : D), (lt1__law_hand.run d [some (.val (.loc p)), x1, some (.val (.int (B : Nat))), x3, x4, some (.val (iD m)), x6, none, none, none]).elim .no (fun Γ => lf1__law_hand Γ S) = .ok (iD k) S' := by
  obtain ⟨c, S1, e1, v1, c1⟩ := drawN hp (m := B) (by omega) (by omega)
  obtain ⟨x, S2, e2, v2, hx⟩ := law_pick (v1.1 p hp) [iD m, iD c] (by simp) (by simp)
  have : ∃ k, x = iD k ∧ k < B := by
    simp at hx
    rcases hx with rfl | rfl
    · exact ⟨m, rfl, hm⟩
    · exact ⟨c, rfl, c1⟩
  obtain ⟨k, rfl, hk⟩ := this
  refine ⟨k, S2, hk, v1.trans v2, fun x1 x3 x4 x6 d => ?_⟩
  simp only [iD] at e2 ⊢
  simp [lt1__law_hand, lf1__law_hand, e1, e2]
theorem law_hand_core {S S1 : Store} {p : Nat} {pl : D} (n : Int) (zs ak an : List D) (rg : rangeD [.int n] = some zs)
    (e : forL t2__law_hand b2__law_hand zs [some (.val (.loc p)), some (.val pl), some (.val (.int n)), some (.own (.lst [])), some (.own (.lst [])), none, none, none, none, none] S = .nx [some (.val (.loc p)), some (.val pl), some (.val (.int n)), some (.own (.lst ak)), some (.own (.lst an)), none, none, none, none, none] S1) :
    F__law_hand [.loc p, pl, .int n] S = .ok (.tup [.str "hand", .tup ak, .tup an]) S1 := by
  simp [F__law_hand, fnOf, g__law_hand, rg, e, setM]
theorem law_hand (P : PlOk L ow rows) {many : Nat} (h1 : 1 ≤ many) (h60 : many ≤ 60) {S : Store} {p : Nat} (hp : Pot S p) :
    ∃ tk nx S', F__law_hand [.loc p, plD L ow rows, .int (many : Int)] S = .ok (hdN tk nx) S' ∧ Evo S S' ∧ HOk ow rows many tk nx := by
  have hml := mvs_le P
  have hz : zips (ow.map .int) (rows.map rowD) = zips (ow.map D.int) (rows.map rowD) := rfl
  have loop : ∀ (l : List Nat) (S' : Store) (tk : List (List (Option Nat))) (nx : List (List Nat)), (∀ m ∈ l, m < many) → tk.length + l.length ≤ 1000 → nx.length + l.length ≤ 1000 → Evo S S' → (∀ t ∈ tk, TkPre ow rows ow.length t) → (∀ n ∈ nx, n.length = (mvs rows).length ∧ ∀ k ∈ n, k < many) →
      ∃ (tk' : List (List (Option Nat))) (nx' : List (List Nat)) (S'' : Store), forL t2__law_hand b2__law_hand (l.map iD) [some (.val (.loc p)), some (.val (plD L ow rows)), some (.val (.int (many : Int))), some (.own (.lst (tk.map tkN))), some (.own (.lst (nx.map nxN))), none, none, none, none, none] S' =
        .nx [some (.val (.loc p)), some (.val (plD L ow rows)), some (.val (.int (many : Int))), some (.own (.lst (tk'.map tkN))), some (.own (.lst (nx'.map nxN))), none, none, none, none, none] S'' ∧ Evo S S'' ∧
        tk'.length = tk.length + l.length ∧ nx'.length = nx.length + l.length ∧ (∀ t ∈ tk', TkPre ow rows ow.length t) ∧ (∀ n ∈ nx', n.length = (mvs rows).length ∧ ∀ k ∈ n, k < many) := by
    intro l
    induction l with
    | nil => intro S' tk nx _ _ _ hS a b; exact ⟨tk, nx, S', rfl, hS, rfl, rfl, a, b⟩
    | cons m l ih =>
      intro S' tk nx hl l1 l2 hS a b
      simp only [List.length_cons] at l1 l2
      have hm := hl m (by simp)
      obtain ⟨t, S2, e2, v2, tp⟩ := take_loop P (.int (many : Int)) (iD m) (hS.1 p hp) (.lst (tk.map tkN)) (.lst (nx.map nxN))
      have em := law_moves L ow rows S2 (by omega)
      have lc : ∃ (ks : List Nat) (S3 : Store), (∀ x3, lcL lt1__law_hand bYes lf1__law_hand [some (.val (.loc p)), some (.val (plD L ow rows)), some (.val (.int (many : Int))), x3, some (.own (.lst (nx.map nxN))), some (.val (iD m)), some (.val (.lst (t.map opN))), none, none, none] ((mvs rows).map tI3) S2 = .ok (ks.map iD) S3) ∧ Evo S2 S3 ∧ ks.length = (mvs rows).length ∧ ∀ k ∈ ks, k < many := by
        have gen : ∀ (ds : List D) (S4 : Store), Evo S2 S4 → ∃ (ks : List Nat) (S3 : Store), (∀ x3, lcL lt1__law_hand bYes lf1__law_hand [some (.val (.loc p)), some (.val (plD L ow rows)), some (.val (.int (many : Int))), x3, some (.own (.lst (nx.map nxN))), some (.val (iD m)), some (.val (.lst (t.map opN))), none, none, none] ds S4 = .ok (ks.map iD) S3) ∧ Evo S2 S3 ∧ ks.length = ds.length ∧ ∀ k ∈ ks, k < many := by
          intro ds
          induction ds with
          | nil => intro S4 v; exact ⟨[], S4, fun _ => rfl, v, rfl, fun _ h => by cases h⟩
          | cons d ds ih =>
            intro S4 v
            obtain ⟨k, S5, hk, v5, e5⟩ := pick2 ((hS.trans (v2.trans v)).1 p hp) hm (by omega)
            obtain ⟨ks, S6, e6, v6, l6, b6⟩ := ih S5 (v.trans v5)
            refine ⟨k :: ks, S6, fun x3 => ?_, v6, by simp [l6], fun q hq => ?_⟩
            · have h5 := e5 (some (.val (plD L ow rows))) x3 (some (.own (.lst (nx.map nxN)))) (some (.val (.lst (t.map opN)))) d
              have h6 := e6 x3
              unfold lcL
              cases e : lt1__law_hand.run d [some (.val (.loc p)), some (.val (plD L ow rows)), some (.val (.int (many : Int))), x3, some (.own (.lst (nx.map nxN))), some (.val (iD m)), some (.val (.lst (t.map opN))), none, none, none] with
              | none => rw [e] at h5; cases h5
              | some Γ1 =>
                rw [e] at h5
                simp only [Option.elim_some] at h5
                simp [h5, h6]
            · rcases List.mem_cons.mp hq with rfl | hq
              · exact hk
              · exact b6 q hq
        obtain ⟨ks, S3, e3, v3, l3, b3⟩ := gen ((mvs rows).map tI3) S2 (Evo.refl _)
        exact ⟨ks, S3, e3, v3, by rw [l3, List.length_map], b3⟩
      obtain ⟨ks, S3, e3, v3, l3, b3⟩ := lc
      have o2 : oIx S' (plD L ow rows) (.int 2) = some (.tup (ow.map .int)) := by unfold plD; rw [o_ixT]; exact atI_2 _ _ _ _
      have o3 : oIx S' (plD L ow rows) (.int 3) = some (.tup (rows.map rowD)) := by unfold plD; rw [o_ixT]; exact atI_3 _ _ _ _ _
      have st := hand_step_core o2 o3 hz e2 em (by rw [List.length_map]; omega) (by rw [List.length_map]; omega) (by rw [List.length_map]; omega) e3
      have et : D.tup (t.map opN) = tkN t := rfl
      have en : D.tup (ks.map iD) = nxN ks := rfl
      rw [et, en] at st
      obtain ⟨tk', nx', S'', e4, v4, k1, k2, k3, k4⟩ := ih S3 (tk ++ [t]) (nx ++ [ks]) (fun q hq => hl q (by simp [hq])) (by simp; omega) (by simp; omega) (hS.trans (v2.trans v3))
        (fun q hq => by
          rcases List.mem_append.mp hq with hq | hq
          · exact a q hq
          · simp at hq; subst hq; exact tp)
        (fun q hq => by
          rcases List.mem_append.mp hq with hq | hq
          · exact b q hq
          · simp at hq; subst hq; exact ⟨l3, b3⟩)
      refine ⟨tk', nx', S'', ?_, v4, by rw [k1]; simp; omega, by rw [k2]; simp; omega, k3, k4⟩
      rw [← e4, List.map_cons]
      cases e : t2__law_hand.run (iD m) [some (.val (.loc p)), some (.val (plD L ow rows)), some (.val (.int (many : Int))), some (.own (.lst (tk.map tkN))), some (.own (.lst (nx.map nxN))), none, none, none, none, none] with
      | none => rw [e] at st; cases st
      | some Γ1 =>
        rw [e] at st
        rw [forL_nx e st]
        simp
  obtain ⟨tk, nx, S', e, v, k1, k2, k3, k4⟩ := loop (List.range many) S [] [] (fun m hm => List.mem_range.mp hm) (by simp; omega) (by simp; omega) (Evo.refl S) (fun _ h => by cases h) (fun _ h => by cases h)
  refine ⟨tk, nx, S', ?_, v, ⟨by simp at k1; exact k1, by simp at k2; exact k2, fun t ht => (k3 t ht).1, fun t ht => (k3 t ht).2, fun n hn => (k4 n hn).1, fun n hn => (k4 n hn).2⟩⟩
  exact law_hand_core (many : Int) _ _ _ (rgN (n := many) (by omega)) e
end
end K75
set_option Elab.async false
set_option linter.all false
set_option maxRecDepth 100000
set_option maxHeartbeats 4000000
namespace K75
open PySem L2 DL SX
/-! ### drawn rows -/
def dr1 : Es := (sSet 6 (eIf (toB (eBin2 oEq (eCall F__law_draw (aCons (eV 0) (aCons (eC (.int 3)) (aNil)))) (eC (.int 0)))) (eC .non) (eCall F__law_draw (aCons (eV 0) (aCons (eV 2) (aNil))))))
def dr2 : Es := (sIf (bAnd (toB (eBin2 oNe (eVb 4) (eFrz (nLst (aNil))))) (toB (eBin2 oEq (eCall F__law_draw (aCons (eV 0) (aCons (eC (.int 2)) (aNil)))) (eC (.int 0))))) (sSeq (sSet 7 (eCall F__law_pick (aCons (eV 0) (aCons (eV 4) (aNil))))) (sMu 3 mApp (eTup (aCons (eC (.int 0)) (aCons (eV 6) (aCons (eV 7) (aCons (eCall F__law_draw (aCons (eV 0) (aCons (eFn bLen (aCons (eBin2 oIx (eBin2 oIx (eVb 1) (eC (.int 3))) (eVb 7)) (aNil))) (aNil)))) (aNil)))))))) (sMu 3 mApp (eTup (aCons (eC (.int 1)) (aCons (eV 6) (aCons (eCall F__law_draw (aCons (eV 0) (aCons (eFn bLen (aCons (eCall F__law_moves (aCons (eV 1) (aNil))) (aNil))) (aNil)))) (aCons (eCall F__law_draw (aCons (eV 0) (aCons (eV 2) (aNil)))) (aNil))))))))
def dr3 : Es := (sIf (toB (eBin2 oEq (eCall F__law_draw (aCons (eV 0) (aCons (eC (.int 4)) (aNil)))) (eC (.int 0)))) (sMu 3 mApp (eLend 3 (eCall F__law_pick (aCons (eV 0) (aCons (eV 3) (aNil)))))) (sNx))
theorem dr_eq : b1__law_drawn_rows = sSeq dr1 (sSeq dr2 (sSeq dr3 (sKill [6, 7, 5]))) := rfl

def drG (p : Nat) (pl mD ownD : D) (f : List D) (x5 x6 x7 : Option Sl) : Gm := [some (.val (.loc p)), some (.val pl), some (.val mD), some (.own (.lst f)), some (.val ownD), x5, x6, x7, none]
theorem noLst_row (r : Row) : noLst (rowD4 r) = true := by
  obtain ⟨go, mem, near, far⟩ := r
  cases mem <;> simp [rowD4, opN, noLst, noLstL]
theorem dr1_run {S : Store} {p many : Nat} (hp : Pot S p) (h1 : 1 ≤ many) (h60 : many ≤ 60) (pl ownD : D) (f : List D) (x5 : Option Sl) :
    ∃ (mem : Option Nat) (S' : Store), dr1 (drG p pl (iD many) ownD f x5 none none) S = .nx (drG p pl (iD many) ownD f x5 (some (.val (opN mem))) none) S' ∧ Evo S S' ∧ ∀ m, mem = some m → m < many := by
  obtain ⟨a, S1, e1, v1, a1⟩ := drawN hp (m := 3) (by omega) (by omega)
  have e1' : F__law_draw [.loc p, .int 3] S = .ok (.int a) S1 := e1
  by_cases h : a = 0
  · subst h
    exact ⟨none, S1, by simp [dr1, drG, e1', opN], v1, fun m e => by cases e⟩
  · obtain ⟨b, S2, e2, v2, b1⟩ := drawN (v1.1 p hp) (m := many) h1 (by omega)
    refine ⟨some b, S2, ?_, v1.trans v2, fun m e => by cases e; exact b1⟩
    have hn : ¬ ((a : Nat) : Int) = 0 := by omega
    simp [dr1, drG, e1', hn, e2, opN, iD, h]
section
variable {L : Int} {ow : List Int} {rows : List (List Mv)} (P : PlOk L ow rows)
include P
theorem mvs_pos : 1 ≤ (mvs rows).length := by
  have h1 := P.n1
  have h2 := P.row
  rw [mvs, mvsA_length]
  cases rows with
  | nil => simp at h1
  | cons r rs => have := (h2 r (by simp)).1; simp; omega
theorem dr2_run {S : Store} {p many : Nat} (hp : Pot S p) (h1 : 1 ≤ many) (h60 : many ≤ 60) (f : List D) (hf : f.length < 1000) (x5 : Option Sl) (mem : Option Nat) (hm : ∀ m, mem = some m → m < many) :
    ∃ (r : Row) (S' : Store) (x7 : Option Sl), dr2 (drG p (plD L ow rows) (iD many) (.lst ((ownP ow).map iD)) f x5 (some (.val (opN mem))) none) S = .nx (drG p (plD L ow rows) (iD many) (.lst ((ownP ow).map iD)) (f ++ [rowD4 r]) x5 (some (.val (opN mem))) x7) S' ∧ Evo S S' ∧ RowOk ow rows many r := by
  have hml := mvs_le P
  have hmp := mvs_pos P
  have hl := P.len
  have h24 := P.n24
  have g1 : f.length < 16777216 := by omega
  have nn := fun T => ne_nil_iD T (ownP ow)
  have mvl : ∀ T, bLen T [.lst ((mvs rows).map tI3)] = some (.int ((mvs rows).length : Nat)) := fun T => by rw [o_lenL, List.length_map]
  have goB : ∀ S1, Evo S S1 → ∃ (r : Row) (S' : Store), (sMu 3 mApp (eTup (aCons (eC (.int 1)) (aCons (eV 6) (aCons (eCall F__law_draw (aCons (eV 0) (aCons (eFn bLen (aCons (eCall F__law_moves (aCons (eV 1) (aNil))) (aNil))) (aNil)))) (aCons (eCall F__law_draw (aCons (eV 0) (aCons (eV 2) (aNil)))) (aNil))))))) (drG p (plD L ow rows) (iD many) (.lst ((ownP ow).map iD)) f x5 (some (.val (opN mem))) none) S1 = .nx (drG p (plD L ow rows) (iD many) (.lst ((ownP ow).map iD)) (f ++ [rowD4 r]) x5 (some (.val (opN mem))) none) S' ∧ Evo S S' ∧ RowOk ow rows many r := fun S1 v1 => by
    have em := law_moves L ow rows S1 (by omega)
    obtain ⟨a, S2, e2, v2, a2⟩ := drawN (v1.1 p hp) (m := (mvs rows).length) hmp (by omega)
    obtain ⟨b, S3, e3, v3, b3⟩ := drawN ((v1.trans v2).1 p hp) (m := many) h1 (by omega)
    refine ⟨⟨true, mem, a, b⟩, S3, ?_, v1.trans (v2.trans v3), ⟨hm, fun e => (by cases e), fun _ => ⟨a2, b3⟩, ⟨by show a < 1000000; omega, by show b < 1000000; omega⟩⟩⟩
    have ml := mvl S1
    generalize (mvs rows).map tI3 = z at *
    generalize plD L ow rows = pl at *
    generalize (mvs rows).length = k at *
    simp [drG, em, ml, e2, e3, g1, rowD4, iD, -o_lenL]
  cases ho : (ownP ow).isEmpty with
  | true =>
    obtain ⟨r, S', e, v, ok⟩ := goB S (Evo.refl S)
    refine ⟨r, S', none, ?_, v, ok⟩
    have nn' := nn S
    rw [ho] at nn'
    unfold dr2
    rw [c_sIf]
    generalize ownP ow = ow' at *
    simp only [drG] at e ⊢
    simp [nn', -c_sMu, -c_eTup]
    simpa using e
  | false =>
    have nn' := nn S
    rw [ho] at nn'
    obtain ⟨a, S1, e1, v1, a1⟩ := drawN hp (m := 2) (by omega) (by omega)
    have e1' : F__law_draw [.loc p, .int 2] S = .ok (.int a) S1 := e1
    by_cases h : a = 0
    · subst h
      have oe : ownP ow ≠ [] := fun h => by rw [h] at ho; cases ho
      have ol := ownP_len ow
      obtain ⟨x, S2, e2, v2, hx⟩ := law_pick (v1.1 p hp) ((ownP ow).map iD) (by rw [List.length_map]; exact List.length_pos_iff.mpr oe) (by rw [List.length_map]; omega)
      obtain ⟨pl, hpl, rfl⟩ := List.mem_map.mp hx
      have o0 := ownP_mem.mp hpl
      have pil := (List.getElem?_eq_some_iff.mp o0).1
      have r0 : rows[pl]? = some rows[pl] := List.getElem?_eq_getElem (by omega)
      have rb := P.row _ (List.mem_of_getElem? r0)
      obtain ⟨c, S3, e3, v3, c3⟩ := drawN ((v1.trans v2).1 p hp) (m := rows[pl].length) (by omega) (by omega)
      have o3 : oIx S2 (plD L ow rows) (.int 3) = some (.tup (rows.map rowD)) := by unfold plD; rw [o_ixT]; exact atI_3 _ _ _ _ _
      have o4 : L2.atI (rows.map rowD) (pl : Int) = some (rowD rows[pl]) := atI_map r0
      have o5 : bLen S2 [rowD rows[pl]] = some (.int (rows[pl].length : Nat)) := by rw [rowD, o_lenT, List.length_map]
      refine ⟨⟨false, mem, pl, c⟩, S3, some (.val (iD pl)), ?_, v1.trans (v2.trans v3), ⟨hm, fun _ => ⟨pil, o0, by rw [r0]; exact c3⟩, fun e => (by cases e), ⟨by show pl < 1000000; omega, by show c < 1000000; omega⟩⟩⟩
      unfold dr2
      rw [c_sIf]
      generalize (ownP ow).map iD = ow' at *
      generalize plD L ow rows = pp at *
      generalize rowD rows[pl] = rr at *
      generalize rows[pl].length = k at *
      simp only [iD] at e2
      simp [drG, nn', e1', e2, o3, o4, o5, e3, g1, rowD4, iD]
    · obtain ⟨r, S', e, v, ok⟩ := goB S1 v1
      refine ⟨r, S', none, ?_, v, ok⟩
      have hn : ¬ ((a : Nat) : Int) = 0 := by omega
      unfold dr2
      rw [c_sIf]
      generalize ownP ow = ow' at *
      simp only [drG] at e ⊢
      simp [nn', e1', hn, h, -c_sMu, -c_eTup]
      simpa using e
theorem dr3_run {S : Store} {p many : Nat} (hp : Pot S p) (hnl : NL S) (ownD : D) (rs : List Row) (hr1 : 1 ≤ rs.length) (hr2 : rs.length < 1000) (x5 x6 x7 : Option Sl) (hok : ∀ r ∈ rs, RowOk ow rows many r) :
    ∃ (rs' : List Row) (S' : Store), dr3 (drG p (plD L ow rows) (iD many) ownD (rs.map rowD4) x5 x6 x7) S = .nx (drG p (plD L ow rows) (iD many) ownD (rs'.map rowD4) x5 x6 x7) S' ∧ Evo S S' ∧ (∀ r ∈ rs', RowOk ow rows many r) ∧ rs'.length ≤ rs.length + 1 := by
  obtain ⟨a, S1, e1, v1, a1⟩ := drawN hp (m := 4) (by omega) (by omega)
  have e1' : F__law_draw [.loc p, .int 4] S = .ok (.int a) S1 := e1
  by_cases h : a = 0
  · subst h
    obtain ⟨x, S2, e2, v2, hx⟩ := law_pick (v1.1 p hp) (rs.map rowD4) (by rw [List.length_map]; exact hr1) (by rw [List.length_map]; omega)
    obtain ⟨r, hr, rfl⟩ := List.mem_map.mp hx
    have nl := v2.2 (v1.2 hnl)
    have nr := noLst_row r
    have g1 : rs.length < 16777216 := by omega
    refine ⟨rs ++ [r], S2, ?_, v1.trans v2, fun q hq => ?_, by simp⟩
    · rw [List.map_append, List.map_cons, List.map_nil]
      have gl : (rs.map rowD4).length < 16777216 := by rw [List.length_map]; omega
      unfold NL at nl
      generalize rs.map rowD4 = z at *
      generalize rowD4 r = rr at *
      simp [dr3, drG, e1', e2, nr, nl, gl, -List.all_eq_true]
    · rcases List.mem_append.mp hq with hq | hq
      · exact hok q hq
      · simp at hq; subst hq; exact hok _ hr
  · have hn : ¬ ((a : Nat) : Int) = 0 := by omega
    exact ⟨rs, S1, by simp [dr3, drG, e1', hn, h], v1, hok, by omega⟩
theorem dr_step {S : Store} {p many : Nat} (hp : Pot S p) (hnl : NL S) (h1 : 1 ≤ many) (h60 : many ≤ 60) (rs : List Row) (hr2 : rs.length < 900) (hok : ∀ r ∈ rs, RowOk ow rows many r) (x5 : D) :
    ∃ (rs' : List Row) (S' : Store), (t1__law_drawn_rows.run x5 (drG p (plD L ow rows) (iD many) (.lst ((ownP ow).map iD)) (rs.map rowD4) none none none)).elim .no (fun Γ => b1__law_drawn_rows Γ S) =
      .nx (drG p (plD L ow rows) (iD many) (.lst ((ownP ow).map iD)) (rs'.map rowD4) none none none) S' ∧ Evo S S' ∧ (∀ r ∈ rs', RowOk ow rows many r) ∧ rs'.length ≤ rs.length + 2 := by
  obtain ⟨mem, S1, e1, v1, m1⟩ := dr1_run hp h1 h60 (plD L ow rows) (.lst ((ownP ow).map iD)) (rs.map rowD4) (some (.val x5))
  obtain ⟨r, S2, x7, e2, v2, ok2⟩ := dr2_run P (v1.1 p hp) h1 h60 (rs.map rowD4) (by rw [List.length_map]; omega) (some (.val x5)) mem m1
  have e2' := e2
  rw [show rs.map rowD4 ++ [rowD4 r] = (rs ++ [r]).map rowD4 by simp] at e2'
  obtain ⟨rs', S3, e3, v3, ok3, l3⟩ := dr3_run P ((v1.trans v2).1 p hp) ((v1.trans v2).2 hnl) (many := many) (.lst ((ownP ow).map iD)) (rs ++ [r]) (by simp) (by simp; omega) (some (.val x5)) (some (.val (opN mem))) x7 (fun q hq => by
    rcases List.mem_append.mp hq with hq | hq
    · exact hok q hq
    · simp at hq; subst hq; exact ok2)
  refine ⟨rs', S3, ?_, v1.trans (v2.trans v3), ok3, by simp at l3; omega⟩
  have e0 : t1__law_drawn_rows.run x5 (drG p (plD L ow rows) (iD many) (.lst ((ownP ow).map iD)) (rs.map rowD4) none none none) = some (drG p (plD L ow rows) (iD many) (.lst ((ownP ow).map iD)) (rs.map rowD4) (some (.val x5)) none none) := rfl
  rw [e0, Option.elim_some, dr_eq]
  have eK : ∀ Γ T, sKill [6, 7, 5] Γ T = .nx (killG Γ [6, 7, 5]) T := fun _ _ => rfl
  simp only [c_sSeq, e1, e2', e3, seqR_nx, eK]
  rfl
theorem dr_loop {p many : Nat} (h1 : 1 ≤ many) (h60 : many ≤ 60) : ∀ (ds : List D) (S : Store) (rs : List Row), Pot S p → NL S → (rs.length + 2 * ds.length < 900) → (∀ r ∈ rs, RowOk ow rows many r) →
    ∃ (rs' : List Row) (S' : Store), forL t1__law_drawn_rows b1__law_drawn_rows ds (drG p (plD L ow rows) (iD many) (.lst ((ownP ow).map iD)) (rs.map rowD4) none none none) S =
      .nx (drG p (plD L ow rows) (iD many) (.lst ((ownP ow).map iD)) (rs'.map rowD4) none none none) S' ∧ Evo S S' ∧ (∀ r ∈ rs', RowOk ow rows many r) ∧ rs'.length ≤ rs.length + 2 * ds.length := by
  intro ds
  induction ds with
  | nil => intro S rs _ _ _ ok; exact ⟨rs, S, rfl, Evo.refl S, ok, by simp⟩
  | cons d ds ih =>
    intro S rs hp hnl hlen ok
    simp only [List.length_cons, Nat.mul_add] at hlen
    obtain ⟨rs1, S1, e1, v1, ok1, l1⟩ := dr_step P hp hnl h1 h60 rs (by omega) ok d
    obtain ⟨rs2, S2, e2, v2, ok2, l2⟩ := ih S1 rs1 (v1.1 p hp) (v1.2 hnl) (by omega) ok1
    refine ⟨rs2, S2, ?_, v1.trans v2, ok2, by simp only [List.length_cons, Nat.mul_add]; omega⟩
    cases e : t1__law_drawn_rows.run d (drG p (plD L ow rows) (iD many) (.lst ((ownP ow).map iD)) (rs.map rowD4) none none none) with
    | none => rw [e] at e1; cases e1
    | some Γ1 =>
      rw [e] at e1
      rw [forL_nx e e1, e2]
theorem last_step {S : Store} {p many : Nat} (hp : Pot S p) (pl : Nat) (hpl : ow[pl]? = some 0) (ownD : D) (rs : List Row) (hr : rs.length < 1000) :
    ∃ (r : Row) (S' : Store), (t2__law_drawn_rows.run (iD pl) (drG p (plD L ow rows) (iD many) ownD (rs.map rowD4) none none none)).elim .no (fun Γ => b2__law_drawn_rows Γ S) =
      .nx (drG p (plD L ow rows) (iD many) ownD ((rs ++ [r]).map rowD4) none none none) S' ∧ Evo S S' ∧ RowOk ow rows many r ∧ r.go = false ∧ r.mem = none ∧ r.near = pl := by
  have hl := P.len
  have h24 := P.n24
  have pil := (List.getElem?_eq_some_iff.mp hpl).1
  have r0 : rows[pl]? = some rows[pl] := List.getElem?_eq_getElem (by omega)
  have rb := P.row _ (List.mem_of_getElem? r0)
  obtain ⟨c, S3, e3, v3, c3⟩ := drawN hp (m := rows[pl].length) (by omega) (by omega)
  have o3 : oIx S (plD L ow rows) (.int 3) = some (.tup (rows.map rowD)) := by unfold plD; rw [o_ixT]; exact atI_3 _ _ _ _ _
  have o4 : L2.atI (rows.map rowD) (pl : Int) = some (rowD rows[pl]) := atI_map r0
  have o5 : bLen S [rowD rows[pl]] = some (.int (rows[pl].length : Nat)) := by rw [rowD, o_lenT, List.length_map]
  refine ⟨⟨false, none, pl, c⟩, S3, ?_, v3, ⟨fun m e => (by cases e), fun _ => ⟨pil, hpl, by rw [r0]; exact c3⟩, fun e => (by cases e), ⟨by show pl < 1000000; omega, by show c < 1000000; omega⟩⟩, rfl, rfl, rfl⟩
  have gl : (rs.map rowD4).length < 16777216 := by rw [List.length_map]; omega
  rw [List.map_append, List.map_cons, List.map_nil]
  generalize rs.map rowD4 = z at *
  generalize plD L ow rows = pp at *
  generalize rowD rows[pl] = rr at *
  generalize rows[pl].length = k at *
  simp [t2__law_drawn_rows, b2__law_drawn_rows, drG, o3, o4, o5, e3, gl, rowD4, iD, opN]
theorem last_loop {p many : Nat} (ownD : D) : ∀ (ps : List Nat) (S : Store) (rs : List Row), Pot S p → (∀ x ∈ ps, ow[x]? = some 0) → rs.length + ps.length < 1000 → (∀ r ∈ rs, RowOk ow rows many r) →
    ∃ (rs' : List Row) (S' : Store), forL t2__law_drawn_rows b2__law_drawn_rows (ps.map iD) (drG p (plD L ow rows) (iD many) ownD (rs.map rowD4) none none none) S =
      .nx (drG p (plD L ow rows) (iD many) ownD (rs'.map rowD4) none none none) S' ∧ Evo S S' ∧ (∀ r ∈ rs', RowOk ow rows many r) ∧ rs'.length = rs.length + ps.length ∧ (∀ r ∈ rs, r ∈ rs') ∧ ∀ x ∈ ps, ∃ r ∈ rs', r.go = false ∧ r.mem = none ∧ r.near = x := by
  intro ps
  induction ps with
  | nil => intro S rs _ _ _ ok; exact ⟨rs, S, rfl, Evo.refl S, ok, rfl, fun _ h => h, fun _ h => (by cases h)⟩
  | cons x ps ih =>
    intro S rs hp hx hlen ok
    simp only [List.length_cons] at hlen
    obtain ⟨r, S1, e1, v1, ok1, g1, g2, g3⟩ := last_step P hp x (hx x (by simp)) (many := many) ownD rs (by omega)
    obtain ⟨rs2, S2, e2, v2, ok2, l2, k2, k3⟩ := ih S1 (rs ++ [r]) (v1.1 p hp) (fun y hy => hx y (by simp [hy])) (by simp; omega) (fun q hq => by
      rcases List.mem_append.mp hq with hq | hq
      · exact ok q hq
      · simp at hq; subst hq; exact ok1)
    refine ⟨rs2, S2, ?_, v1.trans v2, ok2, by simp at l2 ⊢; omega, fun q hq => k2 q (by simp [hq]), fun y hy => ?_⟩
    · rw [List.map_cons]
      cases e : t2__law_drawn_rows.run (iD x) (drG p (plD L ow rows) (iD many) ownD (rs.map rowD4) none none none) with
      | none => rw [e] at e1; cases e1
      | some Γ1 =>
        rw [e] at e1
        rw [forL_nx e e1, e2]
    · rcases List.mem_cons.mp hy with rfl | hy
      · exact ⟨r, k2 r (by simp), g1, g2, g3⟩
      · exact k3 y hy
theorem own_lcD (T : Store) (Γ : Gm) (hΓ : Γ.length = 9) : lcL lt1__law_drawn_rows lc1__law_drawn_rows lf1__law_drawn_rows Γ (owE ow) T = .ok ((ownP ow).map iD) T := by
  have := lcL_ok (t := lt1__law_drawn_rows) (c := lc1__law_drawn_rows) (f := lf1__law_drawn_rows) (Γ := Γ) (S := T) (fun p : Int × Nat => .tup [.int (p.2 : Int), .int p.1]) (fun p => decide (p.1 = 0)) (fun p => iD p.2) ow.zipIdx
    (fun p _ => by simp [lt1__law_drawn_rows, lc1__law_drawn_rows, hΓ])
    (fun p _ _ => by simp [lt1__law_drawn_rows, lf1__law_drawn_rows, iD, hΓ])
  rw [owE, this, ownP, List.map_map]
  rfl
end
theorem drawn_core {S S1 S2 S3 : Store} {p : Nat} {pl mD : D} {owl oe own zs rs1 rs2 : List D} {c : Int} (ho : oIx S pl (.int 2) = some (.tup owl)) (he : enumD owl = oe) (hz : oe.length ≤ 16777216)
    (lc : lcL lt1__law_drawn_rows lc1__law_drawn_rows lf1__law_drawn_rows [some (.val (.loc p)), some (.val pl), some (.val mD), none, none, none, none, none, none] oe S = .ok own S)
    (ed : F__law_draw [.loc p, .int 24] S = .ok (.int c) S1) (rg : rangeD [.int c] = some zs)
    (l1 : forL t1__law_drawn_rows b1__law_drawn_rows zs (drG p pl mD (.lst own) [] none none none) S1 = .nx (drG p pl mD (.lst own) rs1 none none none) S2)
    (l2 : forL t2__law_drawn_rows b2__law_drawn_rows own (drG p pl mD (.lst own) rs1 none none none) S2 = .nx (drG p pl mD (.lst own) rs2 none none none) S3) :
    F__law_drawn_rows [.loc p, pl, mD] S = .ok (.lst rs2) S3 := by
  simp only [drG] at l1 l2
  simp [F__law_drawn_rows, fnOf, g__law_drawn_rows, setM, ho, he, hz, lc, ed, rg, l1, l2]
theorem law_drawn_rows {L : Int} {ow : List Int} {rows : List (List Mv)} (P : PlOk L ow rows) {S : Store} {p many : Nat} (hp : Pot S p) (hnl : NL S) (h1 : 1 ≤ many) (h60 : many ≤ 60) :
    ∃ (rs : List Row) (S' : Store), F__law_drawn_rows [.loc p, plD L ow rows, .int (many : Int)] S = .ok (.lst (rs.map rowD4)) S' ∧ Evo S S' ∧ (∀ r ∈ rs, RowOk ow rows many r) ∧ rs.length ≤ 100 ∧ ∀ x, ow[x]? = some 0 → ∃ r ∈ rs, r.go = false ∧ r.mem = none ∧ r.near = x := by
  have h24 := P.n24
  have hl := P.len
  have ol := ownP_len ow
  obtain ⟨c, S1, e1, v1, c1⟩ := drawN hp (m := 24) (by omega) (by omega)
  have e1' : F__law_draw [.loc p, .int 24] S = .ok (.int c) S1 := e1
  obtain ⟨rs1, S2, e2, v2, ok2, l2⟩ := dr_loop P h1 h60 ((List.range c).map iD) S1 [] (v1.1 p hp) (v1.2 hnl) (by simp; omega) (fun _ h => by cases h)
  obtain ⟨rs2, S3, e3, v3, ok3, l3, _, k3⟩ := last_loop P (many := many) (.lst ((ownP ow).map iD)) (ownP ow) S2 rs1 ((v1.trans v2).1 p hp) (fun x hx => ownP_mem.mp hx) (by simp at l2; omega) ok2
  have ho : oIx S (plD L ow rows) (.int 2) = some (.tup (ow.map .int)) := by unfold plD; rw [o_ixT]; exact atI_2 _ _ _ _
  have hz : (owE ow).length ≤ 16777216 := by rw [owE]; simp; omega
  refine ⟨rs2, S3, drawn_core ho (enum_ow ow) hz (own_lcD P S _ rfl) e1' (rgN (n := c) (by omega)) e2 e3, v1.trans (v2.trans v3), ok3, by simp at l2; omega, fun x hx => k3 x (ownP_mem.mpr hx)⟩
end K75
set_option Elab.async false
set_option linter.all false
set_option maxRecDepth 100000
set_option maxHeartbeats 4000000
namespace K75
open PySem L2 DL SX
/-! ### odd lines -/
theorem NI_bad {w : List Nat} {m : Int} (h : (w = [] ∨ digs w = false ∨ (1 < w.length ∧ w.head? = some 48)) ∨ ¬ w.length < 9) : NI w m = none := by
  unfold NI
  by_cases h1 : w = [] ∨ digs w = false ∨ (1 < w.length ∧ w.head? = some 48)
  · rw [if_pos h1]
  · rw [if_neg h1, if_neg fun h2 => (h.resolve_left h1) h2.1]
section
variable {ow : List Int} {rows : List (List Mv)} {many : Nat}
theorem li_len {ws : List (List Nat)} (h : ws.length ≠ 6) : LIw ow rows many ws = none := by
  unfold LIw
  split
  · simp at h
  · rfl
variable {w0 w1 w2 w3 w4 w5 : List Nat}
theorem li_word (h : ¬ (w0 = wIn ∧ ((w2 = wAt ∧ w4 = wTake) ∨ (w2 = wAfter ∧ w4 = wGo)))) : LIw ow rows many [w0, w1, w2, w3, w4, w5] = none := by
  simp only [LIw]
  rw [if_neg fun k => h ⟨k.1, k.2.1⟩]
theorem li_mem (h1 : w1 ≠ [42]) (h2 : NI w1 many = none) : LIw ow rows many [w0, w1, w2, w3, w4, w5] = none := by
  simp only [LIw]
  rw [if_neg fun k => k.2.2.elim h1 fun z => z h2]
theorem li_tail (h : (if w2 = wAt then TI ow rows w3 w5 else SI rows many w3 w5) = none) : LIw ow rows many [w0, w1, w2, w3, w4, w5] = none := by
  simp only [LIw, h, Option.map_none, ite_self]
theorem li_fnear (h1 : w2 = wAfter) (h2 : NI w3 (mvs rows).length = none) : LIw ow rows many [w0, w1, w2, w3, w4, w5] = none := li_tail (by
  rw [h1, if_neg (by decide), SI, h2])
theorem li_ffar (h1 : w2 = wAfter) (h2 : NI w5 many = none) : LIw ow rows many [w0, w1, w2, w3, w4, w5] = none := li_tail (by
  rw [h1, if_neg (by decide), SI, h2]
  cases NI w3 (mvs rows).length <;> rfl)
theorem li_tnear (h1 : w2 = wAt) (h2 : NI w3 ow.length = none) : LIw ow rows many [w0, w1, w2, w3, w4, w5] = none := li_tail (by
  rw [h1, if_pos rfl, TI, h2])
theorem li_town {p : Nat} (h1 : w2 = wAt) (h2 : NI w3 ow.length = some p) (h3 : ow[p]? ≠ some 0) : LIw ow rows many [w0, w1, w2, w3, w4, w5] = none := li_tail (by
  rw [h1, if_pos rfl, TI, h2]
  simp only [if_neg h3])
theorem li_tfar {p : Nat} (h1 : w2 = wAt) (h2 : NI w3 ow.length = some p) (h3 : NI w5 (rows[p]?.getD []).length = none) : LIw ow rows many [w0, w1, w2, w3, w4, w5] = none := li_tail (by
  rw [h1, if_pos rfl, TI, h2]
  simp only [h3, Option.map_none, ite_self])
end
def OddD (ow : List Int) (rows : List (List Mv)) (many : Nat) (d : D) : Prop := ∃ l, d = tx l ∧ WOk 200 l ∧ LIw ow rows many (spl 32 l) = none
/-- six words told -/
theorem odd_six {ow : List Int} {rows : List (List Mv)} {many : Nat} {w0 w1 w2 w3 w4 w5 : List Nat} (hw : ∀ l ∈ [w0, w1, w2, w3, w4, w5], WOk 12 l ∧ 32 ∉ l) (h : LIw ow rows many [w0, w1, w2, w3, w4, w5] = none) : OddD ow rows many (tx (jn 32 [w0, w1, w2, w3, w4, w5])) :=
  ⟨_, rfl, wok_mono (wok_jn (n := 12) fun l hl => (hw l hl).1) (by simp), by rw [spl_jn (by simp) fun l hl => (hw l hl).2]; exact h⟩
theorem wok_lit {l : List Nat} (h : (decide (l.length ≤ 200) && l.all fun c => decide (c ≠ 10) && decide (c < 1000)) = true) : WOk 200 l := by
  rw [Bool.and_eq_true, decide_eq_true_iff, List.all_eq_true] at h
  refine ⟨h.1, fun hx => ?_, fun c hc => ?_⟩
  · have := h.2 10 hx; simp at this
  · have := h.2 c hc; rw [Bool.and_eq_true, decide_eq_true_iff, decide_eq_true_iff] at this; exact this.2
section
variable (ow : List Int) (rows : List (List Mv)) (many : Nat)
theorem odd_c0 : OddD ow rows many (.str "") := by
  refine ⟨[], by rw [show ("" : PySem.Str) = S [] by decide +kernel], wok_lit (by decide +kernel), ?_⟩
  rw [show spl 32 [] = [[]] by decide +kernel]
  exact li_len (by decide)
theorem odd_c1 : OddD ow rows many (.str " ") := by
  refine ⟨[32], by rw [show (" " : PySem.Str) = S [32] by decide +kernel], wok_lit (by decide +kernel), ?_⟩
  rw [show spl 32 [32] = [[], []] by decide +kernel]
  exact li_len (by decide)
theorem odd_c2 : OddD ow rows many (.str "in") := by
  refine ⟨[105, 110], by rw [show ("in" : PySem.Str) = S [105, 110] by decide +kernel], wok_lit (by decide +kernel), ?_⟩
  rw [show spl 32 [105, 110] = [[105, 110]] by decide +kernel]
  exact li_len (by decide)
theorem odd_c3 : OddD ow rows many (.str "memories 1") := by
  refine ⟨[109, 101, 109, 111, 114, 105, 101, 115, 32, 49], by rw [show ("memories 1" : PySem.Str) = S [109, 101, 109, 111, 114, 105, 101, 115, 32, 49] by decide +kernel], wok_lit (by decide +kernel), ?_⟩
  rw [show spl 32 [109, 101, 109, 111, 114, 105, 101, 115, 32, 49] = [[109, 101, 109, 111, 114, 105, 101, 115], [49]] by decide +kernel]
  exact li_len (by decide)
theorem odd_c4 : OddD ow rows many (.str "in 0 after 0 go *") := by
  refine ⟨[105, 110, 32, 48, 32, 97, 102, 116, 101, 114, 32, 48, 32, 103, 111, 32, 42], by rw [show ("in 0 after 0 go *" : PySem.Str) = S [105, 110, 32, 48, 32, 97, 102, 116, 101, 114, 32, 48, 32, 103, 111, 32, 42] by decide +kernel], wok_lit (by decide +kernel), ?_⟩
  rw [show spl 32 [105, 110, 32, 48, 32, 97, 102, 116, 101, 114, 32, 48, 32, 103, 111, 32, 42] = [[105, 110], [48], [97, 102, 116, 101, 114], [48], [103, 111], [42]] by decide +kernel]
  exact li_ffar rfl (NI_bad (by decide +kernel))
theorem odd_c5 : OddD ow rows many (.str "in -1 after 0 go 0") := by
  refine ⟨[105, 110, 32, 45, 49, 32, 97, 102, 116, 101, 114, 32, 48, 32, 103, 111, 32, 48], by rw [show ("in -1 after 0 go 0" : PySem.Str) = S [105, 110, 32, 45, 49, 32, 97, 102, 116, 101, 114, 32, 48, 32, 103, 111, 32, 48] by decide +kernel], wok_lit (by decide +kernel), ?_⟩
  rw [show spl 32 [105, 110, 32, 45, 49, 32, 97, 102, 116, 101, 114, 32, 48, 32, 103, 111, 32, 48] = [[105, 110], [45, 49], [97, 102, 116, 101, 114], [48], [103, 111], [48]] by decide +kernel]
  exact li_mem (by decide) (NI_bad (by decide +kernel))
theorem odd_c6 : OddD ow rows many (.str "in 00 after 0 go 0") := by
  refine ⟨[105, 110, 32, 48, 48, 32, 97, 102, 116, 101, 114, 32, 48, 32, 103, 111, 32, 48], by rw [show ("in 00 after 0 go 0" : PySem.Str) = S [105, 110, 32, 48, 48, 32, 97, 102, 116, 101, 114, 32, 48, 32, 103, 111, 32, 48] by decide +kernel], wok_lit (by decide +kernel), ?_⟩
  rw [show spl 32 [105, 110, 32, 48, 48, 32, 97, 102, 116, 101, 114, 32, 48, 32, 103, 111, 32, 48] = [[105, 110], [48, 48], [97, 102, 116, 101, 114], [48], [103, 111], [48]] by decide +kernel]
  exact li_mem (by decide) (NI_bad (by decide +kernel))
theorem odd_c7 : OddD ow rows many (.str "in 0 after 00 go 0") := by
  refine ⟨[105, 110, 32, 48, 32, 97, 102, 116, 101, 114, 32, 48, 48, 32, 103, 111, 32, 48], by rw [show ("in 0 after 00 go 0" : PySem.Str) = S [105, 110, 32, 48, 32, 97, 102, 116, 101, 114, 32, 48, 48, 32, 103, 111, 32, 48] by decide +kernel], wok_lit (by decide +kernel), ?_⟩
  rw [show spl 32 [105, 110, 32, 48, 32, 97, 102, 116, 101, 114, 32, 48, 48, 32, 103, 111, 32, 48] = [[105, 110], [48], [97, 102, 116, 101, 114], [48, 48], [103, 111], [48]] by decide +kernel]
  exact li_fnear rfl (NI_bad (by decide +kernel))
theorem odd_c8 : OddD ow rows many (.str "in 0 after 0 go 0 ") := by
  refine ⟨[105, 110, 32, 48, 32, 97, 102, 116, 101, 114, 32, 48, 32, 103, 111, 32, 48, 32], by rw [show ("in 0 after 0 go 0 " : PySem.Str) = S [105, 110, 32, 48, 32, 97, 102, 116, 101, 114, 32, 48, 32, 103, 111, 32, 48, 32] by decide +kernel], wok_lit (by decide +kernel), ?_⟩
  rw [show spl 32 [105, 110, 32, 48, 32, 97, 102, 116, 101, 114, 32, 48, 32, 103, 111, 32, 48, 32] = [[105, 110], [48], [97, 102, 116, 101, 114], [48], [103, 111], [48], []] by decide +kernel]
  exact li_len (by decide)
theorem odd_c9 : OddD ow rows many (.str " in 0 after 0 go 0") := by
  refine ⟨[32, 105, 110, 32, 48, 32, 97, 102, 116, 101, 114, 32, 48, 32, 103, 111, 32, 48], by rw [show (" in 0 after 0 go 0" : PySem.Str) = S [32, 105, 110, 32, 48, 32, 97, 102, 116, 101, 114, 32, 48, 32, 103, 111, 32, 48] by decide +kernel], wok_lit (by decide +kernel), ?_⟩
  rw [show spl 32 [32, 105, 110, 32, 48, 32, 97, 102, 116, 101, 114, 32, 48, 32, 103, 111, 32, 48] = [[], [105, 110], [48], [97, 102, 116, 101, 114], [48], [103, 111], [48]] by decide +kernel]
  exact li_len (by decide)
theorem odd_c10 : OddD ow rows many (.str "in  0 after 0 go 0") := by
  refine ⟨[105, 110, 32, 32, 48, 32, 97, 102, 116, 101, 114, 32, 48, 32, 103, 111, 32, 48], by rw [show ("in  0 after 0 go 0" : PySem.Str) = S [105, 110, 32, 32, 48, 32, 97, 102, 116, 101, 114, 32, 48, 32, 103, 111, 32, 48] by decide +kernel], wok_lit (by decide +kernel), ?_⟩
  rw [show spl 32 [105, 110, 32, 32, 48, 32, 97, 102, 116, 101, 114, 32, 48, 32, 103, 111, 32, 48] = [[105, 110], [], [48], [97, 102, 116, 101, 114], [48], [103, 111], [48]] by decide +kernel]
  exact li_len (by decide)
theorem odd_c11 : OddD ow rows many (.str "in 0 after 0 take 0") := by
  refine ⟨[105, 110, 32, 48, 32, 97, 102, 116, 101, 114, 32, 48, 32, 116, 97, 107, 101, 32, 48], by rw [show ("in 0 after 0 take 0" : PySem.Str) = S [105, 110, 32, 48, 32, 97, 102, 116, 101, 114, 32, 48, 32, 116, 97, 107, 101, 32, 48] by decide +kernel], wok_lit (by decide +kernel), ?_⟩
  rw [show spl 32 [105, 110, 32, 48, 32, 97, 102, 116, 101, 114, 32, 48, 32, 116, 97, 107, 101, 32, 48] = [[105, 110], [48], [97, 102, 116, 101, 114], [48], [116, 97, 107, 101], [48]] by decide +kernel]
  exact li_word (by decide)
theorem odd_c12 : OddD ow rows many (.str "in 0 at 0 go 0") := by
  refine ⟨[105, 110, 32, 48, 32, 97, 116, 32, 48, 32, 103, 111, 32, 48], by rw [show ("in 0 at 0 go 0" : PySem.Str) = S [105, 110, 32, 48, 32, 97, 116, 32, 48, 32, 103, 111, 32, 48] by decide +kernel], wok_lit (by decide +kernel), ?_⟩
  rw [show spl 32 [105, 110, 32, 48, 32, 97, 116, 32, 48, 32, 103, 111, 32, 48] = [[105, 110], [48], [97, 116], [48], [103, 111], [48]] by decide +kernel]
  exact li_word (by decide)
theorem odd_c13 : OddD ow rows many (.str "in 0 after +0 go 0") := by
  refine ⟨[105, 110, 32, 48, 32, 97, 102, 116, 101, 114, 32, 43, 48, 32, 103, 111, 32, 48], by rw [show ("in 0 after +0 go 0" : PySem.Str) = S [105, 110, 32, 48, 32, 97, 102, 116, 101, 114, 32, 43, 48, 32, 103, 111, 32, 48] by decide +kernel], wok_lit (by decide +kernel), ?_⟩
  rw [show spl 32 [105, 110, 32, 48, 32, 97, 102, 116, 101, 114, 32, 43, 48, 32, 103, 111, 32, 48] = [[105, 110], [48], [97, 102, 116, 101, 114], [43, 48], [103, 111], [48]] by decide +kernel]
  exact li_fnear rfl (NI_bad (by decide +kernel))
theorem odd_c14 : OddD ow rows many (.str "in 0 after 0 go 0_0") := by
  refine ⟨[105, 110, 32, 48, 32, 97, 102, 116, 101, 114, 32, 48, 32, 103, 111, 32, 48, 95, 48], by rw [show ("in 0 after 0 go 0_0" : PySem.Str) = S [105, 110, 32, 48, 32, 97, 102, 116, 101, 114, 32, 48, 32, 103, 111, 32, 48, 95, 48] by decide +kernel], wok_lit (by decide +kernel), ?_⟩
  rw [show spl 32 [105, 110, 32, 48, 32, 97, 102, 116, 101, 114, 32, 48, 32, 103, 111, 32, 48, 95, 48] = [[105, 110], [48], [97, 102, 116, 101, 114], [48], [103, 111], [48, 95, 48]] by decide +kernel]
  exact li_ffar rfl (NI_bad (by decide +kernel))
theorem odd_c15 : OddD ow rows many (.str "in 0 after 0 go 1000000000") := by
  refine ⟨[105, 110, 32, 48, 32, 97, 102, 116, 101, 114, 32, 48, 32, 103, 111, 32, 49, 48, 48, 48, 48, 48, 48, 48, 48, 48], by rw [show ("in 0 after 0 go 1000000000" : PySem.Str) = S [105, 110, 32, 48, 32, 97, 102, 116, 101, 114, 32, 48, 32, 103, 111, 32, 49, 48, 48, 48, 48, 48, 48, 48, 48, 48] by decide +kernel], wok_lit (by decide +kernel), ?_⟩
  rw [show spl 32 [105, 110, 32, 48, 32, 97, 102, 116, 101, 114, 32, 48, 32, 103, 111, 32, 49, 48, 48, 48, 48, 48, 48, 48, 48, 48] = [[105, 110], [48], [97, 102, 116, 101, 114], [48], [103, 111], [49, 48, 48, 48, 48, 48, 48, 48, 48, 48]] by decide +kernel]
  exact li_ffar rfl (NI_bad (by decide +kernel))
theorem odd_c16 : OddD ow rows many (.str "in 0 after 10000000000 go 0") := by
  refine ⟨[105, 110, 32, 48, 32, 97, 102, 116, 101, 114, 32, 49, 48, 48, 48, 48, 48, 48, 48, 48, 48, 48, 32, 103, 111, 32, 48], by rw [show ("in 0 after 10000000000 go 0" : PySem.Str) = S [105, 110, 32, 48, 32, 97, 102, 116, 101, 114, 32, 49, 48, 48, 48, 48, 48, 48, 48, 48, 48, 48, 32, 103, 111, 32, 48] by decide +kernel], wok_lit (by decide +kernel), ?_⟩
  rw [show spl 32 [105, 110, 32, 48, 32, 97, 102, 116, 101, 114, 32, 49, 48, 48, 48, 48, 48, 48, 48, 48, 48, 48, 32, 103, 111, 32, 48] = [[105, 110], [48], [97, 102, 116, 101, 114], [49, 48, 48, 48, 48, 48, 48, 48, 48, 48, 48], [103, 111], [48]] by decide +kernel]
  exact li_fnear rfl (NI_bad (by decide +kernel))
theorem odd_c17 : OddD ow rows many (.str "In 0 after 0 go 0") := by
  refine ⟨[73, 110, 32, 48, 32, 97, 102, 116, 101, 114, 32, 48, 32, 103, 111, 32, 48], by rw [show ("In 0 after 0 go 0" : PySem.Str) = S [73, 110, 32, 48, 32, 97, 102, 116, 101, 114, 32, 48, 32, 103, 111, 32, 48] by decide +kernel], wok_lit (by decide +kernel), ?_⟩
  rw [show spl 32 [73, 110, 32, 48, 32, 97, 102, 116, 101, 114, 32, 48, 32, 103, 111, 32, 48] = [[73, 110], [48], [97, 102, 116, 101, 114], [48], [103, 111], [48]] by decide +kernel]
  exact li_word (by decide)
theorem odd_c18 : OddD ow rows many (.str "in 0 after 0 go") := by
  refine ⟨[105, 110, 32, 48, 32, 97, 102, 116, 101, 114, 32, 48, 32, 103, 111], by rw [show ("in 0 after 0 go" : PySem.Str) = S [105, 110, 32, 48, 32, 97, 102, 116, 101, 114, 32, 48, 32, 103, 111] by decide +kernel], wok_lit (by decide +kernel), ?_⟩
  rw [show spl 32 [105, 110, 32, 48, 32, 97, 102, 116, 101, 114, 32, 48, 32, 103, 111] = [[105, 110], [48], [97, 102, 116, 101, 114], [48], [103, 111]] by decide +kernel]
  exact li_len (by decide)
theorem odd_c19 : OddD ow rows many (.str "in 0 after * go 0") := by
  refine ⟨[105, 110, 32, 48, 32, 97, 102, 116, 101, 114, 32, 42, 32, 103, 111, 32, 48], by rw [show ("in 0 after * go 0" : PySem.Str) = S [105, 110, 32, 48, 32, 97, 102, 116, 101, 114, 32, 42, 32, 103, 111, 32, 48] by decide +kernel], wok_lit (by decide +kernel), ?_⟩
  rw [show spl 32 [105, 110, 32, 48, 32, 97, 102, 116, 101, 114, 32, 42, 32, 103, 111, 32, 48] = [[105, 110], [48], [97, 102, 116, 101, 114], [42], [103, 111], [48]] by decide +kernel]
  exact li_fnear rfl (NI_bad (by decide +kernel))
theorem odd_c20 : OddD ow rows many (.str "in a after 0 go 0") := by
  refine ⟨[105, 110, 32, 97, 32, 97, 102, 116, 101, 114, 32, 48, 32, 103, 111, 32, 48], by rw [show ("in a after 0 go 0" : PySem.Str) = S [105, 110, 32, 97, 32, 97, 102, 116, 101, 114, 32, 48, 32, 103, 111, 32, 48] by decide +kernel], wok_lit (by decide +kernel), ?_⟩
  rw [show spl 32 [105, 110, 32, 97, 32, 97, 102, 116, 101, 114, 32, 48, 32, 103, 111, 32, 48] = [[105, 110], [97], [97, 102, 116, 101, 114], [48], [103, 111], [48]] by decide +kernel]
  exact li_mem (by decide) (NI_bad (by decide +kernel))
end
theorem w_lit {l : List Nat} (h : (decide (l.length ≤ 12) && l.all fun c => decide (c ≠ 10) && decide (c ≠ 32) && decide (c < 1000)) = true) : WOk 12 l ∧ 32 ∉ l := by
  rw [Bool.and_eq_true, decide_eq_true_iff, List.all_eq_true] at h
  refine ⟨⟨h.1, fun hx => ?_, fun c hc => ?_⟩, fun hx => ?_⟩
  · have := h.2 10 hx; simp at this
  · have := h.2 c hc; rw [Bool.and_eq_true, decide_eq_true_iff] at this; exact this.2
  · have := h.2 32 hx; simp at this
theorem w_num {n : Nat} (h : n < 1000000) : WOk 12 (TL.numL n) ∧ 32 ∉ TL.numL n := ⟨wok_mono (wok_num h) (by omega), num_free32 n⟩
theorem NI_over {n : Nat} (h : n < 1000000) : NI (TL.numL n) (n : Int) = none := by rw [NI_num (by omega), if_neg (by omega)]
def six (w1 w2 w3 w4 w5 : List Nat) : D := tx (jn 32 [wIn, w1, w2, w3, w4, w5])
section
variable {ow : List Int} {rows : List (List Mv)} {many : Nat}
theorem odd_w {w1 w2 w3 w4 w5 : List Nat} (h1 : WOk 12 w1 ∧ 32 ∉ w1) (h2 : WOk 12 w2 ∧ 32 ∉ w2) (h3 : WOk 12 w3 ∧ 32 ∉ w3) (h4 : WOk 12 w4 ∧ 32 ∉ w4) (h5 : WOk 12 w5 ∧ 32 ∉ w5) (h : LIw ow rows many [wIn, w1, w2, w3, w4, w5] = none) : OddD ow rows many (six w1 w2 w3 w4 w5) :=
  odd_six (fun l hl => by
    simp only [List.mem_cons, List.not_mem_nil, or_false] at hl
    rcases hl with rfl | rfl | rfl | rfl | rfl | rfl
    · exact w_lit (by decide)
    · exact h1
    · exact h2
    · exact h3
    · exact h4
    · exact h5) h
theorem odd_s1 (h : many < 1000000) : OddD ow rows many (six [48] wAfter [48] wGo (TL.numL many)) := odd_w (w_lit (by decide)) (w_lit (by decide)) (w_lit (by decide)) (w_lit (by decide)) (w_num h) (li_ffar rfl (NI_over h))
theorem odd_s2 (h : (mvs rows).length < 1000000) : OddD ow rows many (six [48] wAfter (TL.numL (mvs rows).length) wGo [48]) := odd_w (w_lit (by decide)) (w_lit (by decide)) (w_num h) (w_lit (by decide)) (w_lit (by decide)) (li_fnear rfl (NI_over h))
theorem odd_s3 (h : many < 1000000) : OddD ow rows many (six (TL.numL many) wAfter [48] wGo [48]) := odd_w (w_num h) (w_lit (by decide)) (w_lit (by decide)) (w_lit (by decide)) (w_lit (by decide)) (li_mem (numL_star many) (NI_over h))
theorem odd_s4 (h : ow.length < 1000000) : OddD ow rows many (six [48] wAt (TL.numL ow.length) wTake [48]) := odd_w (w_lit (by decide)) (w_lit (by decide)) (w_num h) (w_lit (by decide)) (w_lit (by decide)) (li_tnear rfl (NI_over h))
theorem odd_s5 {p : Nat} (h : p < ow.length) (h8 : p < 1000000) (h3 : ow[p]? ≠ some 0) : OddD ow rows many (six [48] wAt (TL.numL p) wTake [48]) := odd_w (w_lit (by decide)) (w_lit (by decide)) (w_num h8) (w_lit (by decide)) (w_lit (by decide)) (li_town rfl (NI_ok h h8) h3)
theorem odd_s6 {p : Nat} (h : p < ow.length) (h8 : p < 1000000) {r : List Mv} (hr : rows[p]? = some r) (h9 : r.length < 1000000) : OddD ow rows many (six [48] wAt (TL.numL p) wTake (TL.numL r.length)) := odd_w (w_lit (by decide)) (w_lit (by decide)) (w_num h8) (w_lit (by decide)) (w_num h9) (li_tfar rfl (NI_ok h h8) (by rw [hr]; exact NI_over h9))
theorem odd_s7 {p : Nat} (h : p < ow.length) (h8 : p < 1000000) : OddD ow rows many (six [48] wAt (TL.numL p) wTake [48, 48]) := odd_w (w_lit (by decide)) (w_lit (by decide)) (w_num h8) (w_lit (by decide)) (w_lit (by decide)) (li_tfar rfl (NI_ok h h8) (NI_bad (by decide +kernel)))
end
theorem l_p1 : ("in 0 after 0 go " : PySem.Str) = S [105, 110, 32, 48, 32, 97, 102, 116, 101, 114, 32, 48, 32, 103, 111, 32] := by decide +kernel
theorem l_p2 : ("in 0 after " : PySem.Str) = S [105, 110, 32, 48, 32, 97, 102, 116, 101, 114, 32] := by decide +kernel
theorem l_p3 : (" go 0" : PySem.Str) = S [32, 103, 111, 32, 48] := by decide +kernel
theorem l_p4 : (" after 0 go 0" : PySem.Str) = S [32, 97, 102, 116, 101, 114, 32, 48, 32, 103, 111, 32, 48] := by decide +kernel
theorem l_p5 : ("in 0 at " : PySem.Str) = S [105, 110, 32, 48, 32, 97, 116, 32] := by decide +kernel
theorem l_p6 : (" take 0" : PySem.Str) = S [32, 116, 97, 107, 101, 32, 48] := by decide +kernel
end K75
set_option Elab.async false
set_option linter.all false
set_option maxRecDepth 100000
set_option maxHeartbeats 4000000
namespace K75
open PySem L2 DL SX
def odds (o1 o2 o3 o4 : D) : List D := [.str "", .str " ", .str "in", .str "memories 1", o1, o2, .str "in 0 after 0 go *", o3, .str "in -1 after 0 go 0", .str "in 00 after 0 go 0", .str "in 0 after 00 go 0", .str "in 0 after 0 go 0 ", .str " in 0 after 0 go 0", .str "in  0 after 0 go 0", .str "in 0 after 0 take 0", .str "in 0 at 0 go 0", .str "in 0 after +0 go 0", .str "in 0 after 0 go 0_0", .str "in 0 after 0 go 1000000000", .str "in 0 after 10000000000 go 0", .str "In 0 after 0 go 0", .str "in 0 after 0 go", .str "in 0 after * go 0", .str "in a after 0 go 0", o4]
theorem odds_len (o1 o2 o3 o4 : D) : (odds o1 o2 o3 o4).length = 25 := rfl
theorem odds_odd (ow : List Int) (rows : List (List Mv)) (many : Nat) {o1 o2 o3 o4 : D} (h1 : OddD ow rows many o1) (h2 : OddD ow rows many o2) (h3 : OddD ow rows many o3) (h4 : OddD ow rows many o4) : ∀ x ∈ odds o1 o2 o3 o4, OddD ow rows many x := by
  intro x hx
  simp only [odds, List.mem_cons, List.not_mem_nil, or_false] at hx
  rcases hx with rfl | rfl | rfl | rfl | rfl | rfl | rfl | rfl | rfl | rfl | rfl | rfl | rfl | rfl | rfl | rfl | rfl | rfl | rfl | rfl | rfl | rfl | rfl | rfl | rfl
  · exact odd_c0 ow rows many
  · exact odd_c1 ow rows many
  · exact odd_c2 ow rows many
  · exact odd_c3 ow rows many
  · exact h1
  · exact h2
  · exact odd_c4 ow rows many
  · exact h3
  · exact odd_c5 ow rows many
  · exact odd_c6 ow rows many
  · exact odd_c7 ow rows many
  · exact odd_c8 ow rows many
  · exact odd_c9 ow rows many
  · exact odd_c10 ow rows many
  · exact odd_c11 ow rows many
  · exact odd_c12 ow rows many
  · exact odd_c13 ow rows many
  · exact odd_c14 ow rows many
  · exact odd_c15 ow rows many
  · exact odd_c16 ow rows many
  · exact odd_c17 ow rows many
  · exact odd_c18 ow rows many
  · exact odd_c19 ow rows many
  · exact odd_c20 ow rows many
  · exact h4
def odG (p : Nat) (pl mD placeD moveD : D) (f : List D) : Gm := [some (.val (.loc p)), some (.val pl), some (.val mD), some (.val placeD), some (.val moveD), some (.own (.lst f)), none, none]
theorem odd_core (T T2 : Store) (p : Nat) (pl : D) (owl mvl oe extra : List D) (many place move : Int) (sm sv sp i2 i3 i4 o1 o2 o3 o4 x : D)
    (h2 : oIx T pl (.int 2) = some (.tup owl)) (h3 : bLen T [.tup owl] = some (.int place)) (h4 : F__law_moves [pl] T = .ok (.lst mvl) T) (h5 : bLen T [.lst mvl] = some (.int move))
    (b1 : bStr T [.int many] = some sm) (b2 : bStr T [.int move] = some sv) (b3 : bStr T [.int place] = some sp)
    (a1 : oAdd T (.str "in 0 after 0 go ") sm = some o1) (a2 : oAdd T (.str "in 0 after ") sv = some i2) (a3 : oAdd T i2 (.str " go 0") = some o2) (a4 : oAdd T (.str "in ") sm = some i3) (a5 : oAdd T i3 (.str " after 0 go 0") = some o3) (a6 : oAdd T (.str "in 0 at ") sp = some i4) (a7 : oAdd T i4 (.str " take 0") = some o4)
    (he : enumD owl = oe) (lp : ∀ base : List D, base.length ≤ 1000 → forL t1__law_odd_lines b1__law_odd_lines oe (odG p pl (.int many) (.int place) (.int move) base) T = .nx (odG p pl (.int many) (.int place) (.int move) (base ++ extra)) T)
    (pk : F__law_pick [.loc p, .lst (odds o1 o2 o3 o4 ++ extra)] T = .ok x T2) : F__law_odd_lines [.loc p, pl, .int many] T = .ok x T2 := by
  simp only [odG] at lp
  simp only [odds] at pk
  simp [F__law_odd_lines, fnOf, g__law_odd_lines, setM, h2, h3, h4, h5, b1, b2, b3, a1, a2, a3, a4, a5, a6, a7, he, lp, -o_lenT, -o_lenL, -o_strI, -DL.o_addS]
  simp only [List.cons_append, List.nil_append] at pk
  simp [pk]
end K75
set_option Elab.async false
set_option linter.all false
set_option maxRecDepth 100000
set_option maxHeartbeats 4000000
namespace K75
open PySem L2 DL SX
theorem six_eq (w1 w2 w3 w4 w5 : List Nat) : six w1 w2 w3 w4 w5 = tx (wIn ++ [32] ++ w1 ++ [32] ++ w2 ++ [32] ++ w3 ++ [32] ++ w4 ++ [32] ++ w5) := by
  simp [six, jn, TL.joinL]
theorem tadd' (T : Store) (a b c : List Nat) (h : a.length + b.length ≤ 1000) (e : a ++ b = c) : oAdd T (tx a) (tx b) = some (tx c) := by rw [tadd T a b (by omega), e]
theorem odd_step_core (T : Store) (p : Nat) (pl mD placeD moveD : D) (f : List D) (i : Int) (o : Int) (rwl : List D) (r sp y1 y2 y3 z1 z2 z3 sl : D) (len : Int) (hf : f.length ≤ 10000)
    (b1 : bStr T [.int i] = some sp) (a1 : oAdd T (.str "in 0 at ") sp = some y1) (a2 : oAdd T y1 (.str " take 0") = some z1) (h3 : oIx T pl (.int 3) = some (.tup rwl)) (h4 : L2.atI rwl i = some r) (h5 : bLen T [r] = some (.int len))
    (b2 : bStr T [.int len] = some sl) (a3 : oAdd T y1 (.str " take ") = some y2) (a4 : oAdd T y2 sl = some z2) (a5 : oAdd T z1 (.str "0") = some z3) :
    (t1__law_odd_lines.run (.tup [.int i, .int o]) (odG p pl mD placeD moveD f)).elim .no (fun Γ => b1__law_odd_lines Γ T) = .nx (odG p pl mD placeD moveD (f ++ (if o = 1 then [z1] else [z2, z3]))) T := by
  have g1 : f.length < 16777216 := by omega
  have g2 : f.length + 2 ≤ 16777216 := by omega
  by_cases h : o = 1
  · simp [t1__law_odd_lines, b1__law_odd_lines, odG, h, b1, a1, a2, g1, -o_strI, -DL.o_addS]
  · simp [t1__law_odd_lines, b1__law_odd_lines, odG, h, b1, a1, a2, h3, h4, h5, b2, a3, a4, a5, g2, -o_strI, -DL.o_addS]
section
variable {L : Int} {ow : List Int} {rows : List (List Mv)} (P : PlOk L ow rows) {many : Nat}
include P
theorem odd_loop (T : Store) (p : Nat) (mD placeD moveD : D) : ∀ (l : List (Int × Nat)), (∀ q ∈ l, ow[q.2]? = some q.1) → l.length ≤ 1000 → ∃ extra : List D, extra.length ≤ 2 * l.length ∧ (∀ x ∈ extra, OddD ow rows many x) ∧
    ∀ f : List D, f.length + 2 * l.length ≤ 5000 → forL t1__law_odd_lines b1__law_odd_lines (l.map fun q => .tup [.int (q.2 : Int), .int q.1]) (odG p (plD L ow rows) mD placeD moveD f) T = .nx (odG p (plD L ow rows) mD placeD moveD (f ++ extra)) T := by
  intro l
  have hl := P.len
  have h24 := P.n24
  induction l with
  | nil => intro _ _; exact ⟨[], by simp, fun _ h => (by cases h), fun f _ => by simp⟩
  | cons q l ih =>
    intro h hlen
    obtain ⟨o, i⟩ := q
    have hq : ow[i]? = some o := h (o, i) (by simp)
    have il := (List.getElem?_eq_some_iff.mp hq).1
    have hr : rows[i]? = some rows[i] := List.getElem?_eq_getElem (by omega)
    have rb := P.row _ (List.mem_of_getElem? hr)
    have ln := num_len (n := i) (by omega)
    have ln2 := num_len (n := rows[i].length) (by omega)
    simp only [List.length_cons] at hlen
    obtain ⟨extra, e1, e2, e3⟩ := ih (fun q hq => h q (by simp [hq])) (by omega)
    let z1 := six [48] wAt (TL.numL i) wTake [48]
    let z2 := six [48] wAt (TL.numL i) wTake (TL.numL rows[i].length)
    let z3 := six [48] wAt (TL.numL i) wTake [48, 48]
    refine ⟨(if o = 1 then [z1] else [z2, z3]) ++ extra, ?_, fun x hx => ?_, fun f hf => ?_⟩
    · rw [List.length_append, List.length_cons, Nat.mul_add]
      have : (if o = 1 then [z1] else [z2, z3]).length ≤ 2 := by split <;> simp
      omega
    · rcases List.mem_append.mp hx with hx | hx
      · by_cases ho : o = 1
        · rw [if_pos ho, List.mem_singleton] at hx
          subst hx
          exact odd_s5 il (by omega) (by rw [hq, ho]; simp)
        · rw [if_neg ho] at hx
          simp only [List.mem_cons, List.not_mem_nil, or_false] at hx
          rcases hx with rfl | rfl
          · exact odd_s6 il (by omega) hr (by omega)
          · exact odd_s7 il (by omega)
      · exact e2 x hx
    · simp only [List.length_cons, Nat.mul_add] at hf
      have h3 : oIx T (plD L ow rows) (.int 3) = some (.tup (rows.map rowD)) := by unfold plD; rw [o_ixT]; exact atI_3 _ _ _ _ _
      have h5 : bLen T [rowD rows[i]] = some (.int (rows[i].length : Nat)) := by rw [rowD, o_lenT, List.length_map]
      have st := odd_step_core T p (plD L ow rows) mD placeD moveD f i o _ (rowD rows[i]) _ (tx (wIn ++ [32] ++ [48] ++ [32] ++ wAt ++ [32] ++ TL.numL i)) (tx (wIn ++ [32] ++ [48] ++ [32] ++ wAt ++ [32] ++ TL.numL i ++ [32] ++ wTake ++ [32])) (tx (wIn ++ [32] ++ [48] ++ [32] ++ wAt ++ [32] ++ TL.numL i ++ [32] ++ wTake ++ [32] ++ [48])) z1 z2 z3 _ _ (by omega)
        (str_num T i (by omega))
        (by rw [l_p5]; exact tadd' T _ _ _ (by simp; omega) (by simp [wIn, wAt]))
        (by rw [l_p6]; show _ = some (six _ _ _ _ _); rw [six_eq]; exact tadd' T _ _ _ (by simp [wIn, wAt]; omega) (by simp [wTake]))
        h3 (atI_map hr) h5 (str_num T _ (by omega))
        (by rw [l_takesp]; exact tadd' T _ _ _ (by simp [wIn, wAt, wTake]; omega) (by simp))
        (by show _ = some (six _ _ _ _ _); rw [six_eq]; exact tadd' T _ _ _ (by simp [wIn, wAt, wTake]; omega) (by simp))
        (by show oAdd T (six _ _ _ _ _) _ = some (six _ _ _ _ _); rw [l_0, six_eq, six_eq]; exact tadd' T _ _ _ (by simp [wIn, wAt, wTake]; omega) (by simp))
      have ih' := e3 (f ++ (if o = 1 then [z1] else [z2, z3])) (by
        have : (if o = 1 then [z1] else [z2, z3]).length ≤ 2 := by split <;> simp
        simp only [List.length_append]; omega)
      rw [List.map_cons]
      cases e : t1__law_odd_lines.run (.tup [.int (i : Int), .int o]) (odG p (plD L ow rows) mD placeD moveD f) with
      | none => rw [e] at st; cases st
      | some Γ1 =>
        rw [e] at st
        rw [forL_nx e st, ih', List.append_assoc]
theorem law_odd_lines {S : Store} {p : Nat} (hp : Pot S p) (h60 : many ≤ 60) : ∃ (l : List Nat) (S' : Store), F__law_odd_lines [.loc p, plD L ow rows, .int (many : Int)] S = .ok (tx l) S' ∧ Evo S S' ∧ WOk 200 l ∧ LIw ow rows many (spl 32 l) = none := by
  have hl := P.len
  have h24 := P.n24
  have hml := mvs_le P
  have l1 := num_len (n := many) (by omega)
  have l2 := num_len (n := (mvs rows).length) (by omega)
  have l3 := num_len (n := ow.length) (by omega)
  obtain ⟨extra, e1, e2, e3⟩ := odd_loop P (many := many) S p (.int (many : Int)) (.int (ow.length : Nat)) (.int ((mvs rows).length : Nat)) ow.zipIdx (fun q hq => zipIdx_mem hq) (by simp; omega)
  simp only [List.length_zipIdx] at e1 e3
  have h2 : oIx S (plD L ow rows) (.int 2) = some (.tup (ow.map .int)) := by unfold plD; rw [o_ixT]; exact atI_2 _ _ _ _
  have h3 : bLen S [.tup (ow.map .int)] = some (.int (ow.length : Nat)) := by rw [o_lenT, List.length_map]
  have h4 := law_moves L ow rows S (by omega)
  have h5 : bLen S [.lst ((mvs rows).map tI3)] = some (.int ((mvs rows).length : Nat)) := by rw [o_lenL, List.length_map]
  let o1 := six [48] wAfter [48] wGo (TL.numL many)
  let o2 := six [48] wAfter (TL.numL (mvs rows).length) wGo [48]
  let o3 := six (TL.numL many) wAfter [48] wGo [48]
  let o4 := six [48] wAt (TL.numL ow.length) wTake [48]
  obtain ⟨x, S', ep, v, hx⟩ := law_pick hp (odds o1 o2 o3 o4 ++ extra) (by rw [List.length_append, odds_len]; omega) (by rw [List.length_append, odds_len]; omega)
  have ox : OddD ow rows many x := by
    rcases List.mem_append.mp hx with hx | hx
    · exact odds_odd ow rows many (odd_s1 (by omega)) (odd_s2 (by omega)) (odd_s3 (by omega)) (odd_s4 (by omega)) x hx
    · exact e2 x hx
  obtain ⟨l, rfl, w, hl2⟩ := ox
  refine ⟨l, S', ?_, v, w, hl2⟩
  exact odd_core S S' p (plD L ow rows) _ _ (owE ow) extra many ow.length (mvs rows).length _ _ _
    (tx (wIn ++ [32] ++ [48] ++ [32] ++ wAfter ++ [32] ++ TL.numL (mvs rows).length)) (tx (wIn ++ [32] ++ TL.numL many)) (tx (wIn ++ [32] ++ [48] ++ [32] ++ wAt ++ [32] ++ TL.numL ow.length)) o1 o2 o3 o4 (tx l)
    h2 h3 h4 h5 (str_num S many (by omega)) (str_num S _ (by omega)) (str_num S _ (by omega))
    (by rw [l_p1]; show _ = some (six _ _ _ _ _); rw [six_eq]; exact tadd' S _ _ _ (by simp; omega) (by simp [wIn, wAfter, wGo]))
    (by rw [l_p2]; exact tadd' S _ _ _ (by simp; omega) (by simp [wIn, wAfter]))
    (by rw [l_p3]; show _ = some (six _ _ _ _ _); rw [six_eq]; exact tadd' S _ _ _ (by simp [wIn, wAfter]; omega) (by simp [wGo]))
    (by rw [l_insp]; exact tadd' S _ _ _ (by simp [wIn]; omega) (by simp))
    (by rw [l_p4]; show _ = some (six _ _ _ _ _); rw [six_eq]; exact tadd' S _ _ _ (by simp [wIn]; omega) (by simp [wAfter, wGo]))
    (by rw [l_p5]; exact tadd' S _ _ _ (by simp; omega) (by simp [wIn, wAt]))
    (by rw [l_p6]; show _ = some (six _ _ _ _ _); rw [six_eq]; exact tadd' S _ _ _ (by simp [wIn, wAt]; omega) (by simp [wTake]))
    (enum_ow ow) (fun base hb => e3 base (by omega)) ep
end
end K75
set_option Elab.async false
set_option linter.all false
set_option maxRecDepth 100000
set_option maxHeartbeats 4000000
namespace K75
open PySem L2 DL SX
/-! ### what may be shown -/
mutual
def okP : PyData → Prop
  | .none => True
  | .bool _ => True
  | .int i => i.natAbs < 10 ^ 31
  | .str x => ∀ c ∈ x.cps.toList, c < 1000
  | .list xs => okPs xs
  | .tuple xs => okPs xs
  | .dict kvs => kvs = []
def okPs : List PyData → Prop
  | [] => True
  | x :: xs => okP x ∧ okPs xs
end
theorem log_small {n : Nat} (h : n < 10 ^ 31) : n.log2 < 105 := by
  by_cases h0 : n = 0
  · subst h0; decide
  · have e : (10 : Nat) ^ 31 < 2 ^ 105 := by decide
    exact (Nat.log2_lt h0).mpr (by omega)
mutual
theorem okP_facts : ∀ p : PyData, okP p → p.showable = true ∧ p.leavesShort 40 = true
  | .none, _ => by simp [PyData.showable, PyData.leavesShort]
  | .bool _, _ => by simp [PyData.showable, PyData.leavesShort]
  | .int i, h => by
    simp only [okP] at h
    have l := log_small h
    refine ⟨?_, ?_⟩
    · simp only [PyData.showable, decide_eq_true_eq]; omega
    · simp only [PyData.leavesShort, decide_eq_true_eq]
      have e := int_text_length_le10 (a := i) (k := 31) (by omega) h
      have e2 : (PyData.shown (.int i)).length = (toString i : String).length := by
        show (Str.ofString (toString i)).length = _
        exact ofString_length _
      omega
  | .str x, h => by
    simp only [okP] at h
    refine ⟨by simp only [PyData.showable], ?_⟩
    simp only [PyData.leavesShort, List.all_eq_true, decide_eq_true_eq]
    intro c hc
    have := h c hc
    have e : (16 : Nat) ^ 8 = 4294967296 := by decide
    omega
  | .list xs, h => by
    simp only [okP] at h
    obtain ⟨h1, h2⟩ := okPs_facts xs h
    exact ⟨by simp only [PyData.showable]; exact h1, by simp only [PyData.leavesShort]; exact h2⟩
  | .tuple xs, h => by
    simp only [okP] at h
    obtain ⟨h1, h2⟩ := okPs_facts xs h
    exact ⟨by simp only [PyData.showable]; exact h1, by simp only [PyData.leavesShort]; exact h2⟩
  | .dict _, h => by
    simp only [okP] at h
    subst h
    simp [PyData.showable, PyData.leavesShort, PyData.leavesShortKv, PyData.showableKv]
theorem okPs_facts : ∀ ps : List PyData, okPs ps → PyData.showableAll ps = true ∧ PyData.leavesShortAll 40 ps = true
  | [], _ => by simp [PyData.showableAll, PyData.leavesShortAll]
  | p :: ps, h => by
    simp only [okPs] at h
    obtain ⟨a1, a2⟩ := okP_facts p h.1
    obtain ⟨b1, b2⟩ := okPs_facts ps h.2
    exact ⟨by simp only [PyData.showableAll, a1, b1, Bool.and_self], by simp only [PyData.leavesShortAll, a2, b2, Bool.and_self]⟩
end
/-- d is shown: depth at most dp, bulk at most b -/
def Pk (d : D) (dp b : Nat) : Prop := ∃ p, (∀ T, pyR T d = some p) ∧ okP p ∧ p.depth ≤ dp ∧ p.bulk ≤ b
theorem Pk.mono {d : D} {dp b dp' b' : Nat} (h : Pk d dp b) (h1 : dp ≤ dp') (h2 : b ≤ b') : Pk d dp' b' := by
  obtain ⟨p, a, c, e, f⟩ := h
  exact ⟨p, a, c, by omega, by omega⟩
theorem pk_non : Pk .non 0 0 := ⟨.none, fun T => by simp [pyR], by simp [okP], by simp [PyData.depth], by simp [PyData.bulk]⟩
theorem pk_bl (b : Bool) : Pk (.bl b) 0 0 := ⟨.bool b, fun T => by simp [pyR], by simp [okP], by simp [PyData.depth], by simp [PyData.bulk]⟩
theorem pk_int {i : Int} (h : i.natAbs < 10 ^ 31) : Pk (.int i) 0 0 := ⟨.int i, fun T => by simp [pyR], by simp only [okP]; exact h, by simp [PyData.depth], by simp [PyData.bulk]⟩
theorem e31 : (10 : Nat) ^ 31 = 10000000000000000000000000000000 := by decide
theorem pk_nat {n : Nat} (h : n < 1000000000) : Pk (iD n) 0 0 := pk_int (by rw [e31]; omega)
theorem pk_opN {m : Option Nat} (h : ∀ k, m = some k → k < 1000000000) : Pk (opN m) 0 0 := by
  cases m with
  | none => exact pk_non
  | some k => exact pk_nat (h k rfl)
theorem pk_tx {l : List Nat} (h : ∀ c ∈ l, c < 1000) : Pk (tx l) 0 l.length := ⟨.str (S l), fun T => by simp [pyR], by simp only [okP]; exact h, by simp [PyData.depth], by simp [PyData.bulk]⟩
theorem pk_emp : Pk .emp 2 0 := ⟨.dict [], fun T => by simp [pyR], by simp [okP], by simp [PyData.depth, PyData.depthKv], by simp [PyData.bulk, PyData.bulkKv]⟩
theorem pks {dp b : Nat} : ∀ ds : List D, (∀ d ∈ ds, Pk d dp b) → ∃ ps, (∀ T, pyRL T ds = some ps) ∧ okPs ps ∧ PyData.depthAll ps ≤ dp ∧ PyData.bulkAll ps ≤ ds.length * (b + 1)
  | [], _ => ⟨[], fun T => by simp [pyRL], by simp [okPs], by simp [PyData.depthAll], by simp [PyData.bulkAll]⟩
  | d :: ds, h => by
    obtain ⟨p, a1, a2, a3, a4⟩ := h d (by simp)
    obtain ⟨ps, b1, b2, b3, b4⟩ := pks ds fun x hx => h x (by simp [hx])
    refine ⟨p :: ps, fun T => by simp [pyRL, a1, b1], by simp only [okPs]; exact ⟨a2, b2⟩, ?_, ?_⟩
    · simp only [PyData.depthAll]; omega
    · simp only [PyData.bulkAll, List.length_cons]
      rw [Nat.add_mul]
      omega
theorem pk_tup {ds : List D} {dp b n : Nat} (h : ∀ d ∈ ds, Pk d dp b) (hn : ds.length ≤ n) : Pk (.tup ds) (dp + 1) (n * (b + 1)) := by
  obtain ⟨ps, b1, b2, b3, b4⟩ := pks ds h
  refine ⟨.tuple ps, fun T => by simp [pyR, b1], by simp only [okP]; exact b2, by simp only [PyData.depth]; omega, ?_⟩
  simp only [PyData.bulk]
  exact Nat.le_trans b4 (Nat.mul_le_mul_right _ hn)
theorem pk_lst {ds : List D} {dp b n : Nat} (h : ∀ d ∈ ds, Pk d dp b) (hn : ds.length ≤ n) : Pk (.lst ds) (dp + 1) (n * (b + 1)) := by
  obtain ⟨ps, b1, b2, b3, b4⟩ := pks ds h
  refine ⟨.list ps, fun T => by simp [pyR, b1], by simp only [okP]; exact b2, by simp only [PyData.depth]; omega, ?_⟩
  simp only [PyData.bulk]
  exact Nat.le_trans b4 (Nat.mul_le_mul_right _ hn)
/-- d has one text in all stores -/
def RpOk (d : D) : Prop := ∃ x : PySem.Str, ∀ T, bRepr T [d] = some (.str x)
theorem rp_of {d : D} {dp b : Nat} (h : Pk d dp b) (hr : isRefD d = true) (h1 : dp ≤ 60) (h2 : b ≤ 390000) : RpOk d := by
  obtain ⟨p, a1, a2, a3, a4⟩ := h
  obtain ⟨f1, f2⟩ := okP_facts p a2
  have e := PyData.shown_le_bulk 40 (by omega) p f2
  have ro : reprOk p = true := by
    unfold reprOk
    rw [f1, sz_eq, decide_eq_true (by omega), decide_eq_true (by omega)]
    rfl
  refine ⟨p.shown, fun T => ?_⟩
  show (if isRefD d then match pyR T d with
    | some p => if reprOk p then some (D.str p.shown) else none
    | none => none else none) = _
  rw [hr, if_pos rfl, a1]
  simp only [ro, if_true]
theorem rp_bad (k : Int) (h : k.natAbs < 1000000000) : RpOk (badD k) :=
  rp_of (pk_lst (ds := [.str "bad", .int k, .bl true]) (dp := 0) (b := 10) (n := 3) (fun d hd => by
    simp only [List.mem_cons, List.not_mem_nil, or_false] at hd
    rcases hd with rfl | rfl | rfl
    · rw [show ("bad" : PySem.Str) = S [98, 97, 100] by decide +kernel]; exact (pk_tx (by decide)).mono (by omega) (by decide)
    · exact (pk_int (by rw [e31]; omega)).mono (by omega) (by omega)
    · exact (pk_bl _).mono (by omega) (by omega)) (by simp)) rfl (by omega) (by omega)
theorem pk_text {x : D} {dp b : Nat} (h : Pk x dp b) (hb : 10 ≤ b) : Pk (.lst [.str "text", x, .bl true]) (dp + 1) (3 * (b + 1)) :=
  pk_lst (ds := [.str "text", x, .bl true]) (dp := dp) (b := b) (n := 3) (fun d hd => by
    simp only [List.mem_cons, List.not_mem_nil, or_false] at hd
    rcases hd with rfl | rfl | rfl
    · rw [show ("text" : PySem.Str) = S [116, 101, 120, 116] by decide +kernel]; exact (pk_tx (by decide)).mono (by omega) (by show 4 ≤ b; omega)
    · exact h
    · exact (pk_bl _).mono (by omega) (by omega)) (by simp)
theorem pk_hd {tk : List (List (Option Nat))} {nx : List (List Nat)} (l1 : tk.length ≤ 60) (l2 : nx.length ≤ 60) (h1 : ∀ t ∈ tk, t.length ≤ 24) (h2 : ∀ n ∈ nx, n.length ≤ 200) (v1 : ∀ t ∈ tk, ∀ k, some k ∈ t → k < 1000000000) (v2 : ∀ n ∈ nx, ∀ k ∈ n, k < 1000000000) : Pk (hdN tk nx) 3 (3 * 12061) := by
  have a : ∀ d ∈ tk.map tkN, Pk d 1 24 := fun d hd => by
    obtain ⟨t, ht, rfl⟩ := List.mem_map.mp hd
    exact (pk_tup (dp := 0) (b := 0) (n := 24) (fun d hd => by
      obtain ⟨m, hm, rfl⟩ := List.mem_map.mp hd
      exact pk_opN fun k e => v1 t ht k (by rw [← e]; exact hm)) (by rw [List.length_map]; exact h1 t ht)).mono (by omega) (by omega)
  have b : ∀ d ∈ nx.map nxN, Pk d 1 200 := fun d hd => by
    obtain ⟨t, ht, rfl⟩ := List.mem_map.mp hd
    exact (pk_tup (dp := 0) (b := 0) (n := 200) (fun d hd => by
      obtain ⟨m, hm, rfl⟩ := List.mem_map.mp hd
      exact pk_nat (v2 t ht m hm)) (by rw [List.length_map]; exact h2 t ht)).mono (by omega) (by omega)
  refine pk_tup (ds := [.str "hand", .tup (tk.map tkN), .tup (nx.map nxN)]) (dp := 2) (b := 12060) (n := 3) (fun d hd => ?_) (by simp)
  simp only [List.mem_cons, List.not_mem_nil, or_false] at hd
  rcases hd with rfl | rfl | rfl
  · rw [show ("hand" : PySem.Str) = S [104, 97, 110, 100] by decide +kernel]; exact (pk_tx (by decide)).mono (by omega) (by decide)
  · exact (pk_tup a (n := 60) (by rw [List.length_map]; exact l1)).mono (by omega) (by omega)
  · exact (pk_tup b (n := 60) (by rw [List.length_map]; exact l2)).mono (by omega) (by omega)
theorem pk_pl {L : Int} {ow : List Int} {rows : List (List Mv)} (P : PlOk L ow rows) : Pk (plD L ow rows) 4 40000 := by
  have hl := P.len
  have h24 := P.n24
  have h1 := P.l1
  have h4 := P.l4
  have a : Pk (.tup (ow.map .int)) 3 9999 := (pk_tup (dp := 0) (b := 0) (n := 24) (fun d hd => by
    obtain ⟨o, ho, rfl⟩ := List.mem_map.mp hd
    have := P.own o ho
    exact pk_int (by rw [e31]; omega)) (by rw [List.length_map]; omega)).mono (by omega) (by omega)
  have b : Pk (.tup (rows.map rowD)) 3 9999 := (pk_tup (dp := 2) (b := 24 * (2 * 1 + 1)) (n := 24) (fun d hd => by
    obtain ⟨r, hr, rfl⟩ := List.mem_map.mp hd
    have rb := P.row r hr
    exact pk_tup (dp := 1) (b := 2 * 1) (n := 24) (fun d hd => by
      obtain ⟨m, hm, rfl⟩ := List.mem_map.mp hd
      have mb := P.mv r hr m hm
      exact pk_tup (ds := [.int m.1, .int m.2]) (dp := 0) (b := 0) (n := 2) (fun d hd => by
        simp only [List.mem_cons, List.not_mem_nil, or_false] at hd
        rcases hd with rfl | rfl
        · exact pk_int (by rw [e31]; omega)
        · exact pk_int (by rw [e31]; omega)) (by simp)) (by rw [List.length_map]; omega)) (by rw [List.length_map]; omega)).mono (by omega) (by omega)
  refine pk_tup (ds := [.str "plant", .int L, .tup (ow.map .int), .tup (rows.map rowD)]) (dp := 3) (b := 9999) (n := 4) (fun d hd => ?_) (by simp)
  simp only [List.mem_cons, List.not_mem_nil, or_false] at hd
  rcases hd with rfl | rfl | rfl | rfl
  · rw [show ("plant" : PySem.Str) = S [112, 108, 97, 110, 116] by decide +kernel]; exact (pk_tx (by decide)).mono (by omega) (by decide)
  · exact (pk_int (by rw [e31]; omega)).mono (by omega) (by omega)
  · exact a
  · exact b
theorem pk_two {x y : D} {dp b : Nat} (h1 : Pk x dp b) (h2 : Pk y dp b) : Pk (.lst [x, y]) (dp + 1) (2 * (b + 1)) :=
  pk_lst (ds := [x, y]) (fun d hd => by
    simp only [List.mem_cons, List.not_mem_nil, or_false] at hd
    rcases hd with rfl | rfl
    · exact h1
    · exact h2) (by simp)
end K75
set_option Elab.async false
set_option linter.all false
set_option maxRecDepth 100000
set_option maxHeartbeats 4000000
namespace K75
open PySem L2 DL SX
/-! ### wrong texts -/
structure WR (L : Int) (ow : List Int) (rows : List (List Mv)) (ls : List (List Nat)) (k : Nat) : Prop where
  lok : LinesOk ls
  len : ls.length < 3999
  k9 : k < 100000
  h1 : ∀ T, ∃ T', F__law_heard [plD L ow rows, tx (jn 10 (ls ++ [[]]))] T = .ok (badD k) T' ∧ Evo T T'
  h2 : ∀ ini last, ls = ini ++ [last] → last ≠ [] → ∀ T, ∃ T', F__law_heard [plD L ow rows, tx (jn 10 ls)] T = .ok (badD k) T' ∧ Evo T T'
section
variable {L : Int} {ow : List Int} {rows : List (List Mv)} (P : PlOk L ow rows)
include P
theorem wr_first {ls : List (List Nat)} (h : LinesOk ls) (hl : ls.length < 3999) (h0 : mmOf ls = none) : WR L ow rows ls 0 where
  lok := h
  len := hl
  k9 := by omega
  h1 := fun T => ⟨T, heard_first P T h (by omega) h0, Evo.refl T⟩
  h2 := fun ini last e hne T => by
    subst e
    exact ⟨T, heard_first' P T h hne h0, Evo.refl T⟩
variable {many : Nat} (m1 : 1 ≤ many) (m60 : many ≤ 60)
include m1 m60
theorem mm_mem : MIw (spl 32 (memL many)) = some many := by rw [spl_memL]; exact MIw_mem m1 m60
theorem rows_parse {rs : List Row} (hok : ∀ r ∈ rs, RowOk ow rows many r) : (rs.map lineL).map (fun l => LIw ow rows many (spl 32 l)) = rs.map some := by
  rw [List.map_map]
  exact List.map_congr_left fun r hr => by show LIw ow rows many (spl 32 (lineL r)) = _; rw [spl_lineL]; exact LIw_row (hok r hr) (by omega)
theorem wr_row {rs : List Row} {b : List Nat} {post : List (List Nat)} (hok : ∀ r ∈ rs, RowOk ow rows many r) (hb : LIw ow rows many (spl 32 b) = none) (h : LinesOk (memL many :: (rs.map lineL ++ b :: post))) (hl : (memL many :: (rs.map lineL ++ b :: post)).length < 3999) :
    WR L ow rows (memL many :: (rs.map lineL ++ b :: post)) (rs.length + 1) where
  lok := h
  len := hl
  k9 := by simp at hl; omega
  h1 := fun T => ⟨T, by
    have e := heard_row P T (mm_mem P m1 m60) rfl h (by omega) (rows_parse P m1 m60 hok) hb
    rw [List.length_map] at e
    exact e, Evo.refl T⟩
  h2 := fun ini last e hne T => ⟨T, by
    have e2 := heard_row' P T (mm_mem P m1 m60) e.symm hne (by rw [← e]; exact h) (rows_parse P m1 m60 hok) hb
    rw [List.length_map, ← e] at e2
    exact e2, Evo.refl T⟩
theorem wr_less {rs : List Row} (hok : ∀ r ∈ rs, RowOk ow rows many r) (h : LinesOk (linesT many rs)) (hl : (linesT many rs).length < 3900) (hx : ∃ m p, m < many ∧ ow[p]? = some 0 ∧ firstR rs false (m, p) = none) : WR L ow rows (linesT many rs) (linesT many rs).length where
  lok := h
  len := by omega
  k9 := by omega
  h1 := fun T => by
    have hn : rs.length < 3900 := by simp [linesT] at hl; omega
    exact heard_less P T (mm_mem P m1 m60) m60 hn rfl h (by omega) (rows_parse P m1 m60 hok) hx
  h2 := fun ini last e hne T => by
    have hn : rs.length < 3900 := by simp [linesT] at hl; omega
    have z := heard_less' P T (mm_mem P m1 m60) m60 hn e.symm hne (by rw [← e]; exact h) (rows_parse P m1 m60 hok) hx
    rw [← e] at z
    exact z
end
/-! one text -/
theorem slice_last_feed (T : Store) (l : List Nat) (h : l.length ≤ 16000000) : slD T (tx (l ++ [10])) none (some (-1)) = some (tx l) := by
  have e := butlast_snoc l 10
  rw [← C8.cutS_slice] at e
  show (if (S (l ++ [10])).length ≤ sizeLine then some (D.str (cutS (S (l ++ [10])) none (some (-1)))) else none) = _
  rw [if_pos (by rw [S_len, sz_eq]; simp; omega), e]
def wrG (pl : D) (y0 y2 y3 y4 y5 y6 y7 y8 y9 y10 y11 y12 y13 y14 y15 y19 y20 : Option Sl) : Gm := [y0, some (.val pl), y2, y3, y4, y5, y6, y7, y8, y9, y10, y11, y12, y13, y14, y15, none, none, none, y19, y20, none]
theorem w_core {T T1 T2 : Store} {pl : D} {y0 y2 y3 y4 y5 y6 y7 y8 y9 y10 y11 y12 y13 y14 y15 y19 y20 : Option Sl} {lsD : List D} {k : Int} {txt txt' x last : PySem.Str} (b c : Bool)
    (hj : eJoin (eC (.str "")) (eFrz (nLc (iSeq (eV 16)) [21] (lt5__law_wrong_right) (bYes) (lf5__law_wrong_right))) [y0, some (.val pl), y2, y3, y4, y5, y6, y7, y8, y9, y10, y11, y12, y13, y14, y15, some (.val (.lst lsD)), some (.val (.int k)), none, y19, y20, none] T = .ok (.str txt) T)
    (hh : F__law_heard [pl, .str txt] T = .ok (badD k) T1) (hr : ∀ T, bRepr T [badD k] = some (.str x)) (hne : oNe T1 (.lst lsD) (.lst []) = some (.bl b))
    (hl : b = true → L2.atI lsD (-1) = some (.str last) ∧ (last = "") = (c = true)) (h2 : b = true → c = false → slD T1 (.str txt) none (some (-1)) = some (.str txt') ∧ F__law_heard [pl, .str txt'] T1 = .ok (badD k) T2) :
    (t2__law_wrong_right.run (.tup [.lst lsD, .int k]) (wrG pl y0 y2 y3 y4 y5 y6 y7 y8 y9 y10 y11 y12 y13 y14 y15 y19 y20)).elim .no (fun Γ => b2__law_wrong_right Γ T) =
      .nx (wrG pl y0 y2 y3 y4 y5 y6 y7 y8 y9 y10 y11 y12 y13 y14 y15 y19 y20) (if b && !c then T2 else T1) := by
  simp only [badD] at hh hr h2
  cases b with
  | false => simp [t2__law_wrong_right, b2__law_wrong_right, wrG, hj, hh, hr, hne, -c_eJoin]
  | true =>
    obtain ⟨a1, a2⟩ := hl rfl
    cases c with
    | true => simp [t2__law_wrong_right, b2__law_wrong_right, wrG, hj, hh, hr, hne, a1, a2, -c_eJoin]
    | false =>
      obtain ⟨a3, a4⟩ := h2 rfl rfl
      simp [t2__law_wrong_right, b2__law_wrong_right, wrG, hj, hh, hr, hne, a1, a2, a3, a4, -c_eJoin]
end K75
set_option Elab.async false
set_option linter.all false
set_option maxRecDepth 100000
set_option maxHeartbeats 4000000
namespace K75
open PySem L2 DL SX
theorem sum_len2 (ls : List (List Nat)) (h : ∀ l ∈ ls, l.length ≤ 200) : (ls.map fun l => (l ++ [10]).length).sum ≤ 201 * ls.length := by
  induction ls with
  | nil => simp
  | cons a r ih =>
    have h1 := ih fun l hl => h l (by simp [hl])
    have h2 := h a (by simp)
    simp only [List.map_cons, List.sum_cons, List.length_cons, List.length_append, List.length_nil, Nat.mul_add] at h1 ⊢
    omega
theorem join_text2 {g : Ev D} {Γ : Gm} {T T1 : Store} {ls : List (List Nat)} (hg : g Γ T = .ok (.lst (ls.map fun l => tx (l ++ [10]))) T1) (h : ∀ l ∈ ls, l.length ≤ 200) (hn : ls.length ≤ 4000) :
    eJoin (eC (.str "")) g Γ T = .ok (tx (jn 10 (ls ++ [[]]))) T1 := by
  have h2 := sum_len2 ls h
  have e1 : (ls.map fun l => S (l ++ [10])) = (ls.map (· ++ [10])).map S := by rw [List.map_map]; rfl
  have e3 : ((ls.map fun l => S (l ++ [10])).map fun x => x.length) = ls.map fun l => (l ++ [10]).length := by
    rw [List.map_map]
    exact List.map_congr_left fun l _ => S_len _
  have e0 : ("" : PySem.Str).length = 0 := by rw [l_no, S_len]; rfl
  have e2 : Txt.join "" (ls.map fun l => S (l ++ [10])) = S (jn 10 (ls ++ [[]])) := by rw [l_no, e1, join_no, joinL_nil, text_jn]
  rw [c_eJoin]
  simp only [c_eC, RE.bind_ok, hg]
  have e4 : viewL T1 (.lst (ls.map fun l => tx (l ++ [10]))) = some (ls.map fun l => tx (l ++ [10])) := rfl
  rw [e4, Option.bind_some, strsOf_map]
  simp only [e3, e0, e2]
  exact if_pos (by rw [Nat.mul_zero]; simp only [List.length_append, List.length_cons, List.length_nil] at h2 ⊢; omega)
theorem join_feed {g : Ev D} {Γ : Gm} {T T1 : Store} {ls : List (List Nat)} (hg : g Γ T = .ok (.lst (ls.map tx)) T1) (h : LinesOk ls) :
    eJoin (eC (.str "\n")) g Γ T = .ok (tx (jn 10 ls)) T1 := by
  have h2 := sum_le h.wok
  have h3 := h.len
  have e3 : ((ls.map S).map fun x => x.length) = ls.map List.length := by
    rw [List.map_map]
    exact List.map_congr_left fun l _ => S_len _
  have e0 : ("\n" : PySem.Str).length = 1 := by rw [l_nl, S_len]; rfl
  have e2 : Txt.join "\n" (ls.map S) = S (jn 10 ls) := by rw [l_nl]; exact join_S [10] ls
  rw [c_eJoin]
  simp only [c_eC, RE.bind_ok, hg]
  have e4 : viewL T1 (.lst (ls.map tx)) = some (ls.map tx) := rfl
  have e5 : strsOf (ls.map tx) = some (ls.map S) := strsOf_map S ls
  rw [e4, Option.bind_some, e5]
  simp only [e3, e0, e2]
  exact if_pos (by rw [List.length_map, Nat.mul_one]; omega)
theorem feed_lc2 {t : Tgt} {f : Ev D} {Γ : Gm} {T : Store} {ls : List (List Nat)} (h : ∀ l ∈ ls, l.length ≤ 200) (hk : ∀ l : List Nat, ∃ Γ1, t.run (tx l) Γ = some Γ1 ∧ ∀ z, oAdd T (tx l) (.str "\n") = some z → f Γ1 T = .ok z T) :
    lcL t bYes f Γ (ls.map tx) T = .ok (ls.map fun l => tx (l ++ [10])) T := lcL_all tx (fun l => tx (l ++ [10])) ls fun l hl => by
  obtain ⟨Γ1, e1, e2⟩ := hk l
  have := h l hl
  rw [e1]
  simp only [Option.elim_some]
  exact e2 _ (by rw [l_nl, tadd T l [10] (by simp; omega)])
theorem w_join {T : Store} {pl : D} {y0 y2 y3 y4 y5 y6 y7 y8 y9 y10 y11 y12 y13 y14 y15 y19 y20 : Option Sl} {ls : List (List Nat)} {k : D} (h : LinesOk ls) :
    eJoin (eC (.str "")) (eFrz (nLc (iSeq (eV 16)) [21] (lt5__law_wrong_right) (bYes) (lf5__law_wrong_right))) [y0, some (.val pl), y2, y3, y4, y5, y6, y7, y8, y9, y10, y11, y12, y13, y14, y15, some (.val (.lst (ls.map tx))), some (.val k), none, y19, y20, none] T = .ok (tx (jn 10 (ls ++ [[]]))) T := by
  have h4 := h.len
  have lc : lcL lt5__law_wrong_right bYes lf5__law_wrong_right [y0, some (.val pl), y2, y3, y4, y5, y6, y7, y8, y9, y10, y11, y12, y13, y14, y15, some (.val (.lst (ls.map tx))), some (.val k), none, y19, y20, none] (ls.map tx) T = .ok (ls.map fun l => tx (l ++ [10])) T :=
    feed_lc2 (fun l hl => (h.wok l hl).1) fun l => ⟨_, rfl, fun z hz => by simp [lf5__law_wrong_right, hz, -DL.o_addS]⟩
  have q : ls.length ≤ 16777216 := by omega
  exact join_text2 (by simp [lc, q]) (fun l hl => (h.wok l hl).1) h4
section
variable {L : Int} {ow : List Int} {rows : List (List Mv)} (P : PlOk L ow rows)
include P
theorem w_step (T : Store) (y0 y2 y3 y4 y5 y6 y7 y8 y9 y10 y11 y12 y13 y14 y15 y19 y20 : Option Sl) {ls : List (List Nat)} {k : Nat} (w : WR L ow rows ls k) :
    ∃ T', (t2__law_wrong_right.run (.tup [.lst (ls.map tx), .int (k : Int)]) (wrG (plD L ow rows) y0 y2 y3 y4 y5 y6 y7 y8 y9 y10 y11 y12 y13 y14 y15 y19 y20)).elim .no (fun Γ => b2__law_wrong_right Γ T) =
      .nx (wrG (plD L ow rows) y0 y2 y3 y4 y5 y6 y7 y8 y9 y10 y11 y12 y13 y14 y15 y19 y20) T' ∧ Evo T T' := by
  obtain ⟨T1, hh, v1⟩ := w.h1 T
  have k9 := w.k9
  obtain ⟨x, hr⟩ := rp_bad (k : Int) (by omega)
  have gl : ∀ l ∈ ls, Good l := fun l hl => by
    have := w.lok.wok l hl
    exact ⟨by have := this.1; omega, this.2.2⟩
  have hne := ne_nil T1 ls gl
  have hj := fun kD => w_join (T := T) (pl := plD L ow rows) (y0 := y0) (y2 := y2) (y3 := y3) (y4 := y4) (y5 := y5) (y6 := y6) (y7 := y7) (y8 := y8) (y9 := y9) (y10 := y10) (y11 := y11) (y12 := y12) (y13 := y13) (y14 := y14) (y15 := y15) (y19 := y19) (y20 := y20) (k := kD) w.lok
  by_cases he : ls = []
  · subst he
    have := w_core (T2 := T1) (txt' := S []) (last := S []) false false (hj _) hh hr hne (fun h => by cases h) (fun h => by cases h)
    exact ⟨_, this, v1⟩
  · have eb : (!ls.isEmpty) = true := by cases ls with | nil => exact absurd rfl he | cons a b => rfl
    rw [eb] at hne
    obtain ⟨ini, last, el⟩ : ∃ ini last, ls = ini ++ [last] := ⟨ls.dropLast, ls.getLast he, (List.dropLast_concat_getLast he).symm⟩
    have al : L2.atI (ls.map tx) (-1) = some (.str (S last)) := by
      rw [el, List.map_append]
      exact atI_last _ _
    by_cases hl : last = []
    · have := w_core (T2 := T1) (txt' := S []) (last := S last) true true (hj _) hh hr hne (fun _ => ⟨al, by rw [l_no, S_eq_iff]; simp [hl]⟩) (fun _ h => by cases h)
      exact ⟨_, this, v1⟩
    · obtain ⟨T2, h2, v2⟩ := w.h2 ini last el hl T1
      have sl : slD T1 (tx (jn 10 (ls ++ [[]]))) none (some (-1)) = some (tx (jn 10 ls)) := by
        rw [jn_last he]
        have := (good_jn w.lok).1
        exact slice_last_feed T1 _ (by omega)
      have := w_core (T2 := T2) (txt' := S (jn 10 ls)) (last := S last) true false (hj _) hh hr hne (fun _ => ⟨al, by rw [l_no, S_eq_iff]; simp [hl]⟩) (fun _ _ => ⟨sl, h2⟩)
      exact ⟨_, this, v1.trans v2⟩
def wD (q : List (List Nat) × Nat) : D := .tup [.lst (q.1.map tx), .int (q.2 : Int)]
theorem w_loop (y0 y2 y3 y4 y5 y6 y7 y8 y9 y10 y11 y12 y13 y14 y15 y19 y20 : Option Sl) : ∀ (qs : List (List (List Nat) × Nat)) (T : Store), (∀ q ∈ qs, WR L ow rows q.1 q.2) → ∃ T', forL t2__law_wrong_right b2__law_wrong_right (qs.map wD) (wrG (plD L ow rows) y0 y2 y3 y4 y5 y6 y7 y8 y9 y10 y11 y12 y13 y14 y15 y19 y20) T =
      .nx (wrG (plD L ow rows) y0 y2 y3 y4 y5 y6 y7 y8 y9 y10 y11 y12 y13 y14 y15 y19 y20) T' ∧ Evo T T' := by
  intro qs
  induction qs with
  | nil => intro T _; exact ⟨T, rfl, Evo.refl T⟩
  | cons q qs ih =>
    intro T h
    obtain ⟨T1, st, v1⟩ := w_step P T y0 y2 y3 y4 y5 y6 y7 y8 y9 y10 y11 y12 y13 y14 y15 y19 y20 (h q (by simp))
    obtain ⟨T2, e2, v2⟩ := ih T1 fun r hr => h r (by simp [hr])
    refine ⟨T2, ?_, v1.trans v2⟩
    rw [List.map_cons]
    cases e : t2__law_wrong_right.run (wD q) (wrG (plD L ow rows) y0 y2 y3 y4 y5 y6 y7 y8 y9 y10 y11 y12 y13 y14 y15 y19 y20) with
    | none => unfold wD at e; rw [e] at st; cases st
    | some Γ1 =>
      have e' := e
      unfold wD at e'
      rw [e'] at st
      rw [forL_nx e st, e2]
end
end K75
set_option Elab.async false
set_option linter.all false
set_option maxRecDepth 100000
set_option maxHeartbeats 4000000
namespace K75
open PySem L2 DL SX
def wt11 : Es := sSeq (sFz 7) (sSeq (sFor (iSeq (eV 7)) (t2__law_wrong_right) (b2__law_wrong_right)) (sSeq (sKill [17, 16, 18]) (sSeq (sSet 18 (eJoin (eC (.str "\n")) (eVb 4))) (sRt (eBin2 oEq (eFn bRepr (aCons (eCall F__law_heard (aCons (eV 1) (aCons (eV 18) (aNil)))) (aNil))) (eFn bRepr (aCons (eFrz (nLst (aCons (eC (.str "bad")) (aCons (eBin2 oSub (eFn bLen (aCons (eVb 4) (aNil))) (eC (.int 1))) (aCons (eC (.bl true)) (aNil)))))) (aNil))))))))
def ws10 : Es := (sIf (toB (eBin2 oNe (eVb 10) (eFrz (nLst (aNil))))) (sSeq (sSet 11 (eCall F__law_pick (aCons (eV 0) (aCons (eV 10) (aNil))))) (sSeq (sSet 12 (eFrz (nLc (iSeq (eV 3)) [20] (lt2__law_wrong_right) (lc2__law_wrong_right) (lf2__law_wrong_right)))) (sSeq (sSet 12 (eBin2 oAdd (eFrz (nLst (aCons (eBin2 oAdd (eC (.str "memories ")) (eFn bStr (aCons (eVb 2) (aNil)))) (aNil)))) (eFrz (nLc (iSeq (eV 12)) [20] (lt3__law_wrong_right) (bYes) (lf3__law_wrong_right))))) (sSeq (sMu 7 mApp (eTup (aCons (eV 12) (aCons (eFn bLen (aCons (eVb 12) (aNil))) (aNil))))) (sSeq (sPar [13, 14] (mVal (eCall F__law_draw (aCons (eV 0) (aCons (eV 2) (aNil)))) (mNew (nLst (aCons (eBin2 oAdd (eC (.str "memories ")) (eFn bStr (aCons (eVb 2) (aNil)))) (aNil))) (mNil)))) (sSeq (sFor (iRange (aCons (eV 2) (aNil))) (t1__law_wrong_right) (b1__law_wrong_right)) (sSeq (sFz 14) (sSeq (sKill [15]) (sMu 7 mApp (eTup (aCons (eV 14) (aCons (eFn bLen (aCons (eVb 14) (aNil))) (aNil))))))))))))) (sNx))
def wt9 : Es := sSeq (sSet 10 (eFrz (nLc (iVia enumOf (aCons (eBin2 oIx (eVb 1) (eC (.int 2))) (aNil))) [11, 19] (lt1__law_wrong_right) (lc1__law_wrong_right) (lf1__law_wrong_right)))) (sSeq ws10 (wt11))
theorem wr_eq : g__law_wrong_right = sSeq (sSet 4 (eSl (eSplit (eCall F__law_text (aCons (eV 2) (aCons (eV 3) (aNil)))) (eC (.str "\n"))) (pNo) (pAt (eNeg (eC (.int 1)))))) (sSeq (sPar [5, 6] (mVal (eBin2 oAdd (eC (.int 1)) (eCall F__law_draw (aCons (eV 0) (aCons (eFn bLen (aCons (eVb 4) (aNil))) (aNil))))) (mVal (eCall F__law_odd_lines (aCons (eV 0) (aCons (eV 1) (aCons (eV 2) (aNil))))) (mNil)))) (sSeq (sNew 7 (nLst (aCons (eTup (aCons (eBin2 oAdd (eBin2 oAdd (eSl (eVb 4) (pNo) (pAt (eVb 5))) (eFrz (nLst (aCons (eV 6) (aNil))))) (eSl (eVb 4) (pAt (eVb 5)) (pNo))) (aCons (eV 5) (aNil)))) (aNil)))) (sSeq (sSet 8 (eBin2 oAdd (eVb 5) (eCall F__law_draw (aCons (eV 0) (aCons (eBin2 oSub (eBin2 oAdd (eFn bLen (aCons (eVb 4) (aNil))) (eC (.int 1))) (eVb 5)) (aNil)))))) (sSeq (sMu 7 mApp (eTup (aCons (eBin2 oAdd (eBin2 oAdd (eBin2 oAdd (eBin2 oAdd (eSl (eVb 4) (pNo) (pAt (eVb 5))) (eFrz (nLst (aCons (eV 6) (aNil))))) (eSl (eVb 4) (pAt (eVb 5)) (pAt (eVb 8)))) (eFrz (nLst (aCons (eC (.str "go")) (aNil))))) (eSl (eVb 4) (pAt (eVb 8)) (pNo))) (aCons (eV 5) (aNil))))) (sSeq (sSet 9 (eCall F__law_pick (aCons (eV 0) (aCons (eFrz (nLst (aCons (eC (.str "memories 0")) (aCons (eC (.str "memories 61")) (aCons (eC (.str "memories")) (aCons (eC (.str "memories 1 1")) (aCons (eC (.str "memory 1")) (aCons (eC (.str "memories 01")) (aCons (eC (.str "memories *")) (aCons (eC (.str "in 0")) (aNil))))))))))) (aNil))))) (sSeq (sMu 7 mApp (eTup (aCons (eBin2 oAdd (eFrz (nLst (aCons (eV 9) (aNil)))) (eSl (eVb 4) (pAt (eC (.int 1))) (pNo))) (aCons (eC (.int 0)) (aNil))))) (sSeq (sMu 7 mApp (eTup (aCons (eSl (eVb 4) (pAt (eC (.int 1))) (pNo)) (aCons (eC (.int 0)) (aNil))))) (sSeq (sMu 7 mApp (eTup (aCons (eFrz (nLst (aNil))) (aCons (eC (.int 0)) (aNil))))) (wt9))))))))) := rfl

def wG (p : Nat) (pl mD rsD : D) (lines : List D) (at_ late : Int) (odd first : D) (tx7 : List D) (y10 y11 y12 y13 y14 : Option Sl) : Gm :=
  [some (.val (.loc p)), some (.val pl), some (.val mD), some (.val rsD), some (.val (.lst lines)), some (.val (.int at_)), some (.val odd), some (.own (.lst tx7)), some (.val (.int late)), some (.val first), y10, y11, y12, y13, y14, none, none, none, none, none, none, none]
theorem wr_stage1 {T T1 T2 T3 T4 : Store} {p : Nat} {pl mD rsD : D} {LL lines A B M B2 : List D} {n a at_ n2 c late : Int} {odd first : D}
    (hs : eSplit (eCall F__law_text (aCons (eV 2) (aCons (eV 3) (aNil)))) (eC (.str "\n")) [some (.val (.loc p)), some (.val pl), some (.val mD), some (.val rsD), none, none, none, none, none, none, none, none, none, none, none, none, none, none, none, none, none, none] T = .ok (.lst LL) T)
    (hcut : cutD LL none (some (-1)) = lines) (hl : ∀ T, bLen T [.lst lines] = some (.int n)) (d1 : F__law_draw [.loc p, .int n] T = .ok (.int a) T1) (ea : 1 + a = at_) (od : F__law_odd_lines [.loc p, pl, mD] T1 = .ok odd T2)
    (u1 : cutD lines none (some at_) = A) (u2 : cutD lines (some at_) none = B) (en : n + 1 - at_ = n2) (d2 : F__law_draw [.loc p, .int n2] T2 = .ok (.int c) T3) (el : at_ + c = late) (u3 : cutD lines (some at_) (some late) = M) (u4 : cutD lines (some late) none = B2)
    (pk : F__law_pick [.loc p, .lst [.str "memories 0", .str "memories 61", .str "memories", .str "memories 1 1", .str "memory 1", .str "memories 01", .str "memories *", .str "in 0"]] T3 = .ok first T4)
    (z1 : A.length ≤ 4000) (z2 : B.length ≤ 4000) (z3 : M.length ≤ 4000) (z4 : B2.length ≤ 4000) (z5 : lines.length ≤ 4000) :
    g__law_wrong_right [some (.val (.loc p)), some (.val pl), some (.val mD), some (.val rsD), none, none, none, none, none, none, none, none, none, none, none, none, none, none, none, none, none, none] T =
      wt9 (wG p pl mD rsD lines at_ late odd first [.tup [.lst (A ++ [odd] ++ B), .int at_], .tup [.lst (A ++ [odd] ++ M ++ [.str "go"] ++ B2), .int at_], .tup [.lst ([first] ++ lines.tail), .int 0], .tup [.lst lines.tail, .int 0], .tup [.lst [], .int 0]] none none none none none) T4 := by
  have y1 : A.length + 1 ≤ 16777216 := by omega
  have y2 : A.length + 1 + B.length ≤ 16777216 := by omega
  have y3 : A.length + (B.length + 1) ≤ 16777216 := by omega
  have y4 : A.length + 1 + M.length ≤ 16777216 := by omega
  have y5 : A.length + (M.length + 1) + 1 ≤ 16777216 := by omega
  have y6 : A.length + (M.length + 1) + 1 + B2.length ≤ 16777216 := by omega
  have y7 : A.length + (M.length + 1 + 1) + B2.length ≤ 16777216 := by omega
  have y8 : 1 + lines.length ≤ 16777216 := by omega
  have y9 : 1 + (lines.length - 1) ≤ 16777216 := by omega
  have y10 : A.length + (1 + B.length) ≤ 16777216 := by omega
  simp [wr_eq, wG, setM, hs, hcut, hl, d1, ea, od, u1, u2, en, d2, el, u3, u4, pk, y1, y2, y3, y4, y5, y6, y7, y8, y9, y10, -c_eSplit, -o_lenL]
end K75
set_option Elab.async false
set_option linter.all false
set_option maxRecDepth 100000
set_option maxHeartbeats 4000000
namespace K75
open PySem L2 DL SX
theorem wr_stage3_core {T T1 T2 : Store} {p : Nat} {pl mD rsD : D} {lines qsD : List D} {at_ late : Int} {odd first : D} {y10 y11 y12 y13 y14 : Option Sl} {txt : D} {n k : Int} {x : PySem.Str}
    (lp : forL t2__law_wrong_right b2__law_wrong_right qsD (wrG pl (some (.val (.loc p))) (some (.val mD)) (some (.val rsD)) (some (.val (.lst lines))) (some (.val (.int at_))) (some (.val odd)) (some (.val (.lst qsD))) (some (.val (.int late))) (some (.val first)) y10 y11 y12 y13 y14 none none none) T =
      .nx (wrG pl (some (.val (.loc p))) (some (.val mD)) (some (.val rsD)) (some (.val (.lst lines))) (some (.val (.int at_))) (some (.val odd)) (some (.val (.lst qsD))) (some (.val (.int late))) (some (.val first)) y10 y11 y12 y13 y14 none none none) T1)
    (hj : eJoin (eC (.str "\n")) (eVb 4) (wrG pl (some (.val (.loc p))) (some (.val mD)) (some (.val rsD)) (some (.val (.lst lines))) (some (.val (.int at_))) (some (.val odd)) (some (.val (.lst qsD))) (some (.val (.int late))) (some (.val first)) y10 y11 y12 y13 y14 none none none) T1 = .ok txt T1)
    (hh : F__law_heard [pl, txt] T1 = .ok (badD k) T2) (hl : ∀ T, bLen T [.lst lines] = some (.int n)) (ek : n - 1 = k) (hr : ∀ T, bRepr T [badD k] = some (.str x)) :
    wt11 (wG p pl mD rsD lines at_ late odd first qsD y10 y11 y12 y13 y14) T = .rt (.bl true) T2 := by
  simp only [badD, wrG] at hh hr lp hj
  simp [wt11, wG, lp, hj, hh, hl, ek, hr, -c_eJoin, -o_lenL]
theorem wr_stage2_none {T : Store} {p : Nat} {pl mD rsD : D} {lines qsD oe : List D} {at_ late : Int} {odd first : D} {owl : List D} (ho : oIx T pl (.int 2) = some (.tup owl)) (he : enumD owl = oe) (hz : oe.length ≤ 16777216)
    (lc : ∀ y7, lcL lt1__law_wrong_right lc1__law_wrong_right lf1__law_wrong_right [some (.val (.loc p)), some (.val pl), some (.val mD), some (.val rsD), some (.val (.lst lines)), some (.val (.int at_)), some (.val odd), y7, some (.val (.int late)), some (.val first), none, none, none, none, none, none, none, none, none, none, none, none] oe T = .ok [] T)
    (hne : oNe T (.lst []) (.lst []) = some (.bl false)) :
    wt9 (wG p pl mD rsD lines at_ late odd first qsD none none none none none) T = wt11 (wG p pl mD rsD lines at_ late odd first qsD (some (.val (.lst []))) none none none none) T := by
  simp [wt9, ws10, wG, ho, he, hz, lc, hne]
theorem wr_stage2_some {T T1 T2 : Store} {p : Nat} {pl place mem0 mem1 : D} {many : Int} {rsl : List D} {lines qsD oe own zs less lessL each : List D} {at_ late n1 n2 : Int} {odd first : D} {owl : List D} (ho : oIx T pl (.int 2) = some (.tup owl)) (he : enumD owl = oe) (hz : oe.length ≤ 16777216)
    (lc : ∀ y7, lcL lt1__law_wrong_right lc1__law_wrong_right lf1__law_wrong_right [some (.val (.loc p)), some (.val pl), some (.val (.int many)), some (.val (.lst rsl)), some (.val (.lst lines)), some (.val (.int at_)), some (.val odd), y7, some (.val (.int late)), some (.val first), none, none, none, none, none, none, none, none, none, none, none, none] oe T = .ok own T)
    (hne : oNe T (.lst own) (.lst []) = some (.bl true)) (pk : F__law_pick [.loc p, .lst own] T = .ok place T1) (hz2 : rsl.length ≤ 16777216)
    (lc2 : ∀ y7, lcL lt2__law_wrong_right lc2__law_wrong_right lf2__law_wrong_right [some (.val (.loc p)), some (.val pl), some (.val (.int many)), some (.val (.lst rsl)), some (.val (.lst lines)), some (.val (.int at_)), some (.val odd), y7, some (.val (.int late)), some (.val first), some (.val (.lst own)), some (.val place), none, none, none, none, none, none, none, none, none, none] rsl T1 = .ok less T1)
    (hz3 : less.length ≤ 10000)
    (lc3 : ∀ y7, lcL lt3__law_wrong_right bYes lf3__law_wrong_right [some (.val (.loc p)), some (.val pl), some (.val (.int many)), some (.val (.lst rsl)), some (.val (.lst lines)), some (.val (.int at_)), some (.val odd), y7, some (.val (.int late)), some (.val first), some (.val (.lst own)), some (.val place), some (.val (.lst less)), none, none, none, none, none, none, none, none, none] less T1 = .ok lessL T1)
    (hz4 : lessL.length ≤ 10000) (es : bStr T1 [.int many] = some mem0) (ea : oAdd T1 (.str "memories ") mem0 = some mem1) (es2 : bStr T2 [.int many] = some mem0) (ea2 : oAdd T2 (.str "memories ") mem0 = some mem1)
    (hl1 : ∀ T, bLen T [.lst (mem1 :: lessL)] = some (.int n1)) (hq : qsD.length ≤ 100) (d : D) (dr : F__law_draw [.loc p, .int many] T1 = .ok d T2) (rg : rangeD [.int many] = some zs)
    (lp : ∀ y7, forL t1__law_wrong_right b1__law_wrong_right zs [some (.val (.loc p)), some (.val pl), some (.val (.int many)), some (.val (.lst rsl)), some (.val (.lst lines)), some (.val (.int at_)), some (.val odd), y7, some (.val (.int late)), some (.val first), some (.val (.lst own)), some (.val place), some (.val (.lst (mem1 :: lessL))), some (.val d), some (.own (.lst [mem1])), none, none, none, none, none, none, none] T2 =
      .nx [some (.val (.loc p)), some (.val pl), some (.val (.int many)), some (.val (.lst rsl)), some (.val (.lst lines)), some (.val (.int at_)), some (.val odd), y7, some (.val (.int late)), some (.val first), some (.val (.lst own)), some (.val place), some (.val (.lst (mem1 :: lessL))), some (.val d), some (.own (.lst each)), none, none, none, none, none, none, none] T2)
    (hl2 : ∀ T, bLen T [.lst each] = some (.int n2)) :
    wt9 (wG p pl (.int many) (.lst rsl) lines at_ late odd first qsD none none none none none) T =
      wt11 (wG p pl (.int many) (.lst rsl) lines at_ late odd first (qsD ++ [.tup [.lst (mem1 :: lessL), .int n1], .tup [.lst each, .int n2]]) (some (.val (.lst own))) (some (.val place)) (some (.val (.lst (mem1 :: lessL)))) (some (.val d)) (some (.val (.lst each)))) T2 := by
  have g1 : qsD.length < 16777216 := by omega
  have g2 : qsD.length + 1 < 16777216 := by omega
  have g3 : less.length ≤ 16777216 := by omega
  have g4 : 1 + lessL.length ≤ 16777216 := by omega
  have g5 : lessL.length + 1 ≤ 16777216 := by omega
  simp [wt9, ws10, wG, setM, ho, he, hz, lc, hne, pk, hz2, lc2, lc3, es, ea, es2, ea2, hl1, dr, rg, lp, hl2, g1, g2, g3, g4, g5, -o_lenL, -o_strI, -DL.o_addS]
end K75
set_option Elab.async false
set_option linter.all false
set_option maxRecDepth 100000
set_option maxHeartbeats 4000000
namespace K75
open PySem L2 DL SX
theorem ne_tup1 (T : Store) (a b : Int) : oNe T (.tup [.int a]) (.tup [.int b]) = some (.bl (!decide (a = b))) := by
  simp [oNe, eqData, pyS, pySL, SeqAt.shaped, PyData.canLay0, PyData.canLayAll0, PyData.depth, PyData.depthAll, PyData.eqv, PyData.eqvAll]
  rfl
theorem ne_tup2 (T : Store) (a b c d : Nat) : oNe T (.tup [iD a, iD b]) (.tup [iD c, iD d]) = some (.bl (!decide ((a, b) = (c, d)))) := by
  have e1 : ((a : Int) == (c : Int)) = decide (a = c) := by rw [Bool.eq_iff_iff]; simp; omega
  have e2 : ((b : Int) == (d : Int)) = decide (b = d) := by rw [Bool.eq_iff_iff]; simp; omega
  simp [oNe, eqData, pyS, pySL, iD, SeqAt.shaped, PyData.canLay0, PyData.canLayAll0, PyData.depth, PyData.depthAll, PyData.eqv, PyData.eqvAll, e1, e2]
theorem own_lcW (T : Store) (ow : List Int) (Γ : Gm) (hΓ : Γ.length = 22) : lcL lt1__law_wrong_right lc1__law_wrong_right lf1__law_wrong_right Γ (owE ow) T = .ok ((ownP ow).map iD) T := by
  have := lcL_ok (t := lt1__law_wrong_right) (c := lc1__law_wrong_right) (f := lf1__law_wrong_right) (Γ := Γ) (S := T) (fun p : Int × Nat => .tup [.int (p.2 : Int), .int p.1]) (fun p => decide (p.1 = 0)) (fun p => iD p.2) ow.zipIdx
    (fun p _ => by simp [lt1__law_wrong_right, lc1__law_wrong_right, hΓ])
    (fun p _ _ => by simp [lt1__law_wrong_right, lf1__law_wrong_right, iD, hΓ])
  rw [owE, this, ownP, List.map_map]
  rfl
def less (pl : Nat) (rs : List Row) : List Row := rs.filter fun r => r.go || decide (r.near ≠ pl)
theorem less_lc (T : Store) (rs : List Row) (pl : Nat) (Γ : Gm) (hΓ : Γ.length = 22) (h11 : Γ[11]? = some (some (.val (iD pl)))) : lcL lt2__law_wrong_right lc2__law_wrong_right lf2__law_wrong_right Γ (rs.map rowD4) T = .ok ((less pl rs).map rowD4) T :=
  lcL_ok (t := lt2__law_wrong_right) (c := lc2__law_wrong_right) (f := lf2__law_wrong_right) (Γ := Γ) (S := T) rowD4 (fun r => r.go || decide (r.near ≠ pl)) rowD4 rs
    (fun r _ => by
      obtain ⟨go, mem, near, far⟩ := r
      have c1 : cutD [D.int (if go = true then 1 else 0), opN mem, .int (near : Int), .int (far : Int)] none (some 1) = [.int (if go = true then 1 else 0)] := cutD_to 1
      have e : (((near : Nat) : Int) = (pl : Nat)) = (near = pl) := by rw [eq_iff_iff]; omega
      have a2 : L2.atI [D.int (if go = true then 1 else 0), opN mem, .int (near : Int), .int (far : Int)] 2 = some (.int (near : Int)) := atI_2 _ _ _ _
      have n1 := ne_tup1 T (if go = true then 1 else 0) 0
      have hg : Γ[11]'(by omega) = some (Sl.val (iD pl)) := by
        have := h11
        rw [List.getElem?_eq_getElem (by omega : 11 < Γ.length)] at this
        exact Option.some.inj this
      have h11' : (Γ.set 20 (some (.val (rowD4 ⟨go, mem, near, far⟩))))[11]? = some (some (.val (iD pl))) := by rw [List.getElem?_set_ne (by omega)]; exact h11
      simp only [rowD4] at h11'
      cases go
      · simp only [Bool.false_eq_true, if_false] at *
        simp [lt2__law_wrong_right, lc2__law_wrong_right, rowD4, hΓ, c1, n1, a2, hg, iD, e]
      · simp only [if_true] at *
        simp [lt2__law_wrong_right, lc2__law_wrong_right, rowD4, hΓ, c1, n1])
    (fun r _ _ => by simp [lt2__law_wrong_right, lf2__law_wrong_right, hΓ])
theorem line_lc (T : Store) (rs : List Row) (hs : ∀ r ∈ rs, Small r) (Γ : Gm) (hΓ : Γ.length = 22) : lcL lt3__law_wrong_right bYes lf3__law_wrong_right Γ (rs.map rowD4) T = .ok ((rs.map lineL).map tx) T := by
  have := lcL_all (t := lt3__law_wrong_right) (f := lf3__law_wrong_right) (Γ := Γ) (S := T) rowD4 (fun r => tx (lineL r)) rs fun r hr => by
    have h := law_line T r (hs r hr).1 (hs r hr).2
    simp [lt3__law_wrong_right, lf3__law_wrong_right, hΓ, h]
  rw [this, List.map_map]
  rfl
/-- the rows of one memory -/
def eachR (m0 pl : Nat) (own : List Nat) (one : Nat) : List Row := (own.filter fun x => !decide ((one, x) = (m0, pl))).map fun x => ⟨false, some one, x, 0⟩
theorem each_lc (T : Store) (own : List Nat) (ho : ∀ x ∈ own, x < 1000000) (m0 pl one : Nat) (h1 : one < 1000000) (y0 y1 y2 y3 y4 y6 y7 y8 y9 y10 y12 y14 : Option Sl) :
    lcL lt4__law_wrong_right lc3__law_wrong_right lf4__law_wrong_right [y0, y1, y2, y3, y4, none, y6, y7, y8, y9, y10, some (.val (iD pl)), y12, some (.val (iD m0)), y14, some (.val (iD one)), none, none, none, none, none, none] (own.map iD) T = .ok (((eachR m0 pl own one).map lineL).map tx) T := by
  have := lcL_ok (t := lt4__law_wrong_right) (c := lc3__law_wrong_right) (f := lf4__law_wrong_right) (S := T) (Γ := [y0, y1, y2, y3, y4, none, y6, y7, y8, y9, y10, some (.val (iD pl)), y12, some (.val (iD m0)), y14, some (.val (iD one)), none, none, none, none, none, none]) iD (fun x => !decide ((one, x) = (m0, pl))) (fun x => tx (lineL ⟨false, some one, x, 0⟩)) own
    (fun x _ => by
      have n2 := ne_tup2 T one x m0 pl
      simp only [iD] at n2
      simp [lt4__law_wrong_right, lc3__law_wrong_right, n2, iD])
    (fun x hx _ => by
      have h := law_line T ⟨false, some one, x, 0⟩ ⟨ho x hx, by show (0 : Nat) < 1000000; omega⟩ (fun m e => by cases e; exact h1)
      simp only [rowD4, opN, Bool.false_eq_true, if_false] at h
      rw [show ((0 : Nat) : Int) = 0 from rfl] at h
      simp [lt4__law_wrong_right, lf4__law_wrong_right, iD, h])
  rw [this, eachR, List.map_map, List.map_map]
  rfl
theorem each_step {T : Store} {y0 y1 y2 y3 y4 y5 y6 y7 y8 y9 y11 y12 y13 : Option Sl} {own acc xs : List D} {one : D} (ha : acc.length + xs.length ≤ 16777216) (ho : own.length ≤ 16777216)
    (lc : ∀ y14, lcL lt4__law_wrong_right lc3__law_wrong_right lf4__law_wrong_right [y0, y1, y2, y3, y4, none, y6, y7, y8, y9, some (.val (.lst own)), y11, y12, y13, y14, some (.val one), none, none, none, none, none, none] own T = .ok xs T) :
    (t1__law_wrong_right.run one [y0, y1, y2, y3, y4, y5, y6, y7, y8, y9, some (.val (.lst own)), y11, y12, y13, some (.own (.lst acc)), none, none, none, none, none, none, none]).elim .no (fun Γ => b1__law_wrong_right Γ T) =
      .nx [y0, y1, y2, y3, y4, y5, y6, y7, y8, y9, some (.val (.lst own)), y11, y12, y13, some (.own (.lst (acc ++ xs))), none, none, none, none, none, none, none] T := by
  simp [t1__law_wrong_right, b1__law_wrong_right, ho, lc, ha]
theorem eachR_len (m0 pl : Nat) (own : List Nat) (one : Nat) : (eachR m0 pl own one).length ≤ own.length := by
  rw [eachR, List.length_map]
  exact List.length_filter_le _ _
theorem each_loop (T : Store) (own : List Nat) (ho : ∀ x ∈ own, x < 1000000) (hol : own.length ≤ 100) (m0 pl : Nat) (y0 y1 y2 y3 y4 y5 y6 y7 y8 y9 y12 : Option Sl) : ∀ (l : List Nat) (acc : List D), (∀ m ∈ l, m < 1000000) → acc.length + 100 * l.length ≤ 1000000 →
    forL t1__law_wrong_right b1__law_wrong_right (l.map iD) [y0, y1, y2, y3, y4, y5, y6, y7, y8, y9, some (.val (.lst (own.map iD))), some (.val (iD pl)), y12, some (.val (iD m0)), some (.own (.lst acc)), none, none, none, none, none, none, none] T =
      .nx [y0, y1, y2, y3, y4, y5, y6, y7, y8, y9, some (.val (.lst (own.map iD))), some (.val (iD pl)), y12, some (.val (iD m0)), some (.own (.lst (acc ++ ((l.flatMap (eachR m0 pl own)).map lineL).map tx))), none, none, none, none, none, none, none] T := by
  intro l
  induction l with
  | nil => intro acc _ _; simp
  | cons m l ih =>
    intro acc hm ha
    simp only [List.length_cons, Nat.mul_add] at ha
    have el := eachR_len m0 pl own m
    have lc := fun y14 => each_lc T own ho m0 pl m (hm m (by simp)) y0 y1 y2 y3 y4 y6 y7 y8 y9 (some (.val (.lst (own.map iD)))) y12 y14
    have st := each_step (y0 := y0) (y1 := y1) (y2 := y2) (y3 := y3) (y4 := y4) (y5 := y5) (y6 := y6) (y7 := y7) (y8 := y8) (y9 := y9) (y11 := some (.val (iD pl))) (y12 := y12) (y13 := some (.val (iD m0))) (acc := acc) (by simp only [List.length_map]; omega) (by rw [List.length_map]; omega) lc
    have ih' := ih (acc ++ ((eachR m0 pl own m).map lineL).map tx) (fun q hq => hm q (by simp [hq])) (by simp only [List.length_append, List.length_map]; omega)
    rw [List.map_cons]
    cases e : t1__law_wrong_right.run (iD m) [y0, y1, y2, y3, y4, y5, y6, y7, y8, y9, some (.val (.lst (own.map iD))), some (.val (iD pl)), y12, some (.val (iD m0)), some (.own (.lst acc)), none, none, none, none, none, none, none] with
    | none => rw [e] at st; cases st
    | some Γ1 =>
      rw [e] at st
      rw [forL_nx e st, ih']
      simp
end K75
set_option Elab.async false
set_option linter.all false
set_option maxRecDepth 100000
set_option maxHeartbeats 4000000
namespace K75
open PySem L2 DL SX
def FstD (d : D) : Prop := ∃ l, d = tx l ∧ WOk 200 l ∧ MIw (spl 32 l) = none
theorem fst_0 : FstD (.str "memories 0") := ⟨[109, 101, 109, 111, 114, 105, 101, 115, 32, 48], by rw [show ("memories 0" : PySem.Str) = S [109, 101, 109, 111, 114, 105, 101, 115, 32, 48] by decide +kernel], wok_lit (by decide +kernel), by decide +kernel⟩
theorem fst_1 : FstD (.str "memories 61") := ⟨[109, 101, 109, 111, 114, 105, 101, 115, 32, 54, 49], by rw [show ("memories 61" : PySem.Str) = S [109, 101, 109, 111, 114, 105, 101, 115, 32, 54, 49] by decide +kernel], wok_lit (by decide +kernel), by decide +kernel⟩
theorem fst_2 : FstD (.str "memories") := ⟨[109, 101, 109, 111, 114, 105, 101, 115], by rw [show ("memories" : PySem.Str) = S [109, 101, 109, 111, 114, 105, 101, 115] by decide +kernel], wok_lit (by decide +kernel), by decide +kernel⟩
theorem fst_3 : FstD (.str "memories 1 1") := ⟨[109, 101, 109, 111, 114, 105, 101, 115, 32, 49, 32, 49], by rw [show ("memories 1 1" : PySem.Str) = S [109, 101, 109, 111, 114, 105, 101, 115, 32, 49, 32, 49] by decide +kernel], wok_lit (by decide +kernel), by decide +kernel⟩
theorem fst_4 : FstD (.str "memory 1") := ⟨[109, 101, 109, 111, 114, 121, 32, 49], by rw [show ("memory 1" : PySem.Str) = S [109, 101, 109, 111, 114, 121, 32, 49] by decide +kernel], wok_lit (by decide +kernel), by decide +kernel⟩
theorem fst_5 : FstD (.str "memories 01") := ⟨[109, 101, 109, 111, 114, 105, 101, 115, 32, 48, 49], by rw [show ("memories 01" : PySem.Str) = S [109, 101, 109, 111, 114, 105, 101, 115, 32, 48, 49] by decide +kernel], wok_lit (by decide +kernel), by decide +kernel⟩
theorem fst_6 : FstD (.str "memories *") := ⟨[109, 101, 109, 111, 114, 105, 101, 115, 32, 42], by rw [show ("memories *" : PySem.Str) = S [109, 101, 109, 111, 114, 105, 101, 115, 32, 42] by decide +kernel], wok_lit (by decide +kernel), by decide +kernel⟩
theorem fst_7 : FstD (.str "in 0") := ⟨[105, 110, 32, 48], by rw [show ("in 0" : PySem.Str) = S [105, 110, 32, 48] by decide +kernel], wok_lit (by decide +kernel), by decide +kernel⟩
def picks : List D := [.str "memories 0", .str "memories 61", .str "memories", .str "memories 1 1", .str "memory 1", .str "memories 01", .str "memories *", .str "in 0"]
theorem picks_ok : ∀ x ∈ picks, FstD x := by
  intro x hx
  simp only [picks, List.mem_cons, List.not_mem_nil, or_false] at hx
  rcases hx with rfl | rfl | rfl | rfl | rfl | rfl | rfl | rfl
  · exact fst_0
  · exact fst_1
  · exact fst_2
  · exact fst_3
  · exact fst_4
  · exact fst_5
  · exact fst_6
  · exact fst_7
theorem lineL_ne (r : Row) : lineL r ≠ [] := by
  obtain ⟨go, mem, near, far⟩ := r
  simp [lineL, lineW, jn, TL.joinL, wIn]
theorem memL_ne (m : Nat) : memL m ≠ [] := by simp [memL, jn, TL.joinL, wMem]
theorem wok_go : WOk 200 wGo := wok_lit (by decide +kernel)
section
variable {L : Int} {ow : List Int} {rows : List (List Mv)} (P : PlOk L ow rows)
include P
theorem rowok_small {many : Nat} (hm : many ≤ 60) {r : Row} (h : RowOk ow rows many r) : Small r := ⟨h.small, fun m e => by have := h.mem m e; omega⟩
variable {many : Nat} (m1 : 1 ≤ many) (m60 : many ≤ 60) {rs : List Row} (hok : ∀ r ∈ rs, RowOk ow rows many r) (hlen : rs.length ≤ 1000)
include m1 m60 hok hlen
theorem wok_lines : ∀ l ∈ linesT many rs, WOk 200 l := fun l hl => wok_mono (linesT_ok (by omega) (fun r hr => rowok_small P m60 (hok r hr)) l hl) (by omega)
theorem lok_lines : LinesOk (linesT many rs) := ⟨wok_lines P m1 m60 hok hlen, by simp [linesT]; omega⟩
theorem wr_q1 {a : Nat} (ha : a ≤ rs.length) {odd : List Nat} (ho : WOk 200 odd) (hb : LIw ow rows many (spl 32 odd) = none) (post : List (List Nat)) (hp : ∀ l ∈ post, WOk 200 l) (hpl : post.length ≤ 2000) :
    WR L ow rows ((linesT many rs).take (a + 1) ++ [odd] ++ post) (a + 1) := by
  have e : (linesT many rs).take (a + 1) ++ [odd] ++ post = memL many :: ((rs.take a).map lineL ++ odd :: post) := by simp [linesT]
  have el : (rs.take a).length = a := by rw [List.length_take]; omega
  have wl := wok_lines P m1 m60 hok hlen
  rw [e]
  have := wr_row P m1 m60 (rs := rs.take a) (b := odd) (post := post) (fun r hr => hok r (List.mem_of_mem_take hr)) hb ⟨fun l hl => by
    simp only [List.mem_cons, List.mem_append, List.mem_map] at hl
    rcases hl with rfl | ⟨r, hr, rfl⟩ | rfl | hl
    · exact wl _ (by simp [linesT])
    · exact wl _ (by simp only [linesT, List.mem_cons, List.mem_map]; exact .inr ⟨r, List.mem_of_mem_take hr, rfl⟩)
    · exact ho
    · exact hp l hl, by simp only [List.length_cons, List.length_append, List.length_map, el]; omega⟩ (by simp only [List.length_cons, List.length_append, List.length_map, el]; omega)
  rw [el] at this
  exact this
theorem wr_q3 {f : List Nat} (hf : WOk 200 f) (h0 : MIw (spl 32 f) = none) : WR L ow rows ([f] ++ (linesT many rs).tail) 0 := by
  have wl := wok_lines P m1 m60 hok hlen
  refine wr_first P ⟨fun l hl => ?_, ?_⟩ ?_ h0
  · simp only [List.cons_append, List.nil_append, List.mem_cons] at hl
    rcases hl with rfl | hl
    · exact hf
    · exact wl l (List.mem_of_mem_tail hl)
  · simp [linesT]; omega
  · simp [linesT]; omega
theorem wr_q4 : WR L ow rows (linesT many rs).tail 0 := by
  have wl := wok_lines P m1 m60 hok hlen
  refine wr_first P ⟨fun l hl => wl l (List.mem_of_mem_tail hl), ?_⟩ ?_ ?_
  · simp [linesT]; omega
  · simp [linesT]; omega
  · simp only [linesT, List.tail_cons]
    cases rs with
    | nil => rfl
    | cons r rs =>
      show MIw (spl 32 (lineL r)) = none
      rw [spl_lineL]
      rfl
end
theorem wr_q5 {L : Int} {ow : List Int} {rows : List (List Mv)} (P : PlOk L ow rows) : WR L ow rows [] 0 := wr_first P ⟨fun l hl => (by cases hl), by simp⟩ (by simp) rfl
section
variable {L : Int} {ow : List Int} {rows : List (List Mv)} (P : PlOk L ow rows)
include P
variable {many : Nat} (m1 : 1 ≤ many) (m60 : many ≤ 60) {rs : List Row} (hok : ∀ r ∈ rs, RowOk ow rows many r) (hlen : rs.length ≤ 1000)
include m1 m60 hok hlen
theorem wr_q6 {pl : Nat} (hp : ow[pl]? = some 0) : WR L ow rows (linesT many (less pl rs)) (linesT many (less pl rs)).length := by
  have hl : (less pl rs).length ≤ rs.length := List.length_filter_le _ _
  have hok' : ∀ r ∈ less pl rs, RowOk ow rows many r := fun r hr => hok r (List.mem_filter.mp hr).1
  refine wr_less P m1 m60 hok' (lok_lines P m1 m60 hok' (by omega)) (by simp [linesT]; omega) ⟨0, pl, by omega, hp, ?_⟩
  rw [firstR_none]
  intro r hr hf
  rw [less, List.mem_filter, Bool.or_eq_true, decide_eq_true_iff] at hr
  rw [fits, decide_eq_true_iff] at hf
  rcases hr.2 with h | h
  · rw [hf.1] at h; cases h
  · exact h hf.2.2
omit hok hlen
theorem wr_q7 {m0 pl : Nat} (hm0 : m0 < many) (hp : ow[pl]? = some 0) : WR L ow rows (linesT many ((List.range many).flatMap (eachR m0 pl (ownP ow)))) (linesT many ((List.range many).flatMap (eachR m0 pl (ownP ow)))).length := by
  have hl := P.len
  have h24 := P.n24
  have ol := ownP_len ow
  have flen : ∀ l : List Nat, (l.flatMap (eachR m0 pl (ownP ow))).length ≤ 24 * l.length := fun l => by
    induction l with
    | nil => simp
    | cons m l ih =>
      have := eachR_len m0 pl (ownP ow) m
      rw [List.flatMap_cons, List.length_append, List.length_cons, Nat.mul_add]
      omega
  have fl := flen (List.range many)
  rw [List.length_range] at fl
  have mem : ∀ r ∈ (List.range many).flatMap (eachR m0 pl (ownP ow)), ∃ one x, one < many ∧ ow[x]? = some 0 ∧ (one, x) ≠ (m0, pl) ∧ r = ⟨false, some one, x, 0⟩ := fun r hr => by
    obtain ⟨one, h1, h2⟩ := List.mem_flatMap.mp hr
    rw [eachR, List.mem_map] at h2
    obtain ⟨x, hx, rfl⟩ := h2
    rw [List.mem_filter] at hx
    exact ⟨one, x, List.mem_range.mp h1, ownP_mem.mp hx.1, fun e => (by have := hx.2; rw [e] at this; simp at this), rfl⟩
  have hok' : ∀ r ∈ (List.range many).flatMap (eachR m0 pl (ownP ow)), RowOk ow rows many r := fun r hr => by
    obtain ⟨one, x, h1, h2, h3, rfl⟩ := mem r hr
    have xl := (List.getElem?_eq_some_iff.mp h2).1
    have r1 : rows[x]? = some rows[x] := List.getElem?_eq_getElem (by omega)
    have rb := (P.row _ (List.mem_of_getElem? r1)).1
    exact ⟨fun m e => by cases e; exact h1, fun _ => ⟨xl, h2, by rw [r1]; exact rb⟩, fun e => (by cases e), ⟨by show x < 1000000; omega, by show (0 : Nat) < 1000000; omega⟩⟩
  refine wr_less P m1 m60 hok' ⟨fun l hl => wok_mono (linesT_ok (by omega) (fun r hr => rowok_small P m60 (hok' r hr)) l hl) (by omega), by rw [linesT, List.length_cons, List.length_map]; omega⟩ (by rw [linesT, List.length_cons, List.length_map]; omega) ⟨m0, pl, hm0, hp, ?_⟩
  rw [firstR_none]
  intro r hr hf
  obtain ⟨one, x, h1, h2, h3, rfl⟩ := mem r hr
  rw [fits, decide_eq_true_iff] at hf
  obtain ⟨_, f2, f3⟩ := hf
  simp only [reduceCtorEq, Option.some.injEq, false_or] at f2 f3
  exact h3 (by rw [f2, f3])
end
end K75
set_option Elab.async false
set_option linter.all false
set_option maxRecDepth 100000
set_option maxHeartbeats 4000000
namespace K75
open PySem L2 DL SX
theorem wr_close {S S' : Store} {p : Nat} {pl mD rsD : D} (h : g__law_wrong_right [some (.val (.loc p)), some (.val pl), some (.val mD), some (.val rsD), none, none, none, none, none, none, none, none, none, none, none, none, none, none, none, none, none, none] S = .rt (.bl true) S') :
    F__law_wrong_right [.loc p, pl, mD, rsD] S = .ok (.bl true) S' := by
  simp [F__law_wrong_right, fnOf, h]
theorem cut_to {l : List (List Nat)} {n : Nat} {i : Int} (h : i = (n : Int)) : cutD (l.map tx) none (some i) = (l.take n).map tx := by rw [h, cutD_to, List.map_take]
theorem cut_from {l : List (List Nat)} {n : Nat} {i : Int} (h : i = (n : Int)) : cutD (l.map tx) (some i) none = (l.drop n).map tx := by rw [h, cutD_from, List.map_drop]
theorem cut_mid {l : List (List Nat)} {m n : Nat} {i j : Int} (h : i = (m : Int)) (k : j = (n : Int)) : cutD (l.map tx) (some i) (some j) = ((l.drop m).take (n - m)).map tx := by rw [h, k, cutD_mid, List.map_take, List.map_drop]
section
variable {L : Int} {ow : List Int} {rows : List (List Mv)} (P : PlOk L ow rows)
include P
variable {many : Nat} (m1 : 1 ≤ many) (m60 : many ≤ 60) {rs : List Row} (hok : ∀ r ∈ rs, RowOk ow rows many r) (hlen : rs.length ≤ 1000) (hcov : ∀ x, ow[x]? = some 0 → ∃ r ∈ rs, r.go = false ∧ r.mem = none ∧ r.near = x)
include m1 m60 hok hlen hcov
theorem cov_all (m p : Nat) (hm : m < many) (hp : ow[p]? = some 0) : firstR rs false (m, p) ≠ none := by
  rw [Ne, firstR_none]
  intro h
  obtain ⟨r, hr, a, b, c⟩ := hcov p hp
  exact h r hr (by rw [fits, decide_eq_true_iff]; exact ⟨a, .inl b, c⟩)
/-- the end, from any seven texts -/
theorem wr_end {S : Store} {p : Nat} {mD rsD : D} {at_ late : Int} {odd first : D} {y10 y11 y12 y13 y14 : Option Sl} (qs : List (List (List Nat) × Nat)) (hq : ∀ q ∈ qs, WR L ow rows q.1 q.2) :
    ∃ S', wt11 (wG p (plD L ow rows) mD rsD ((linesT many rs).map tx) at_ late odd first (qs.map wD) y10 y11 y12 y13 y14) S = .rt (.bl true) S' ∧ Evo S S' := by
  obtain ⟨T1, lp, v1⟩ := w_loop P (some (.val (.loc p))) (some (.val mD)) (some (.val rsD)) (some (.val (.lst ((linesT many rs).map tx)))) (some (.val (.int at_))) (some (.val odd)) (some (.val (.lst (qs.map wD)))) (some (.val (.int late))) (some (.val first)) y10 y11 y12 y13 y14 none none none qs S hq
  have lk := lok_lines P m1 m60 hok hlen
  have hj := join_feed (g := eV 4) (Γ := wrG (plD L ow rows) (some (.val (.loc p))) (some (.val mD)) (some (.val rsD)) (some (.val (.lst ((linesT many rs).map tx)))) (some (.val (.int at_))) (some (.val odd)) (some (.val (.lst (qs.map wD)))) (some (.val (.int late))) (some (.val first)) y10 y11 y12 y13 y14 none none none) (T := T1) (T1 := T1) (ls := linesT many rs) rfl lk
  have hne : linesT many rs ≠ [] := by simp [linesT]
  have el := (List.dropLast_concat_getLast hne).symm
  have lne : (linesT many rs).getLast hne ≠ [] := by
    have := List.getLast_mem hne
    simp only [linesT, List.mem_cons, List.mem_map] at this
    rcases this with h | ⟨r, _, h⟩
    · simp only [linesT]; rw [h]; exact memL_ne many
    · simp only [linesT]; rw [← h]; exact lineL_ne r
  obtain ⟨T2, hh, v2⟩ := heard_open P T1 (mm_mem P m1 m60) m60 (by omega : rs.length < 3900) (cov_all P m1 m60 hok hlen hcov) (ls := (linesT many rs).dropLast) (last := (linesT many rs).getLast hne) (tl := rs.map lineL) (by rw [← el]; rfl) lne (by rw [← el]; exact lk) (rows_parse P m1 m60 hok)
  rw [← el] at hh
  have hk : ((((linesT many rs).length : Nat) : Int) - 1).natAbs < 1000000000 := by simp [linesT]; omega
  obtain ⟨x, hr⟩ := rp_bad ((((linesT many rs).length : Nat) : Int) - 1) hk
  exact ⟨T2, wr_stage3_core lp hj hh (fun T => by rw [o_lenL, List.length_map]) rfl hr, v1.trans v2⟩
theorem law_wrong_right {S : Store} {p : Nat} (hp : Pot S p) : ∃ S', F__law_wrong_right [.loc p, plD L ow rows, .int (many : Int), .lst (rs.map rowD4)] S = .ok (.bl true) S' ∧ Evo S S' := by
  have h24 := P.n24
  have hl := P.len
  have ol := ownP_len ow
  have lk := lok_lines P m1 m60 hok hlen
  have wl := lk.wok
  have ll : (linesT many rs).length = rs.length + 1 := by simp [linesT]
  have hsm : ∀ r ∈ rs, Small r := fun r hr => rowok_small P m60 (hok r hr)
  have lt := law_text S many rs (by omega) hsm (by omega)
  have lk1 := lok_snoc lk (by omega)
  have sp := spl_lines lk1 (by simp)
  have hs := eSplit_S (f := eCall F__law_text (aCons (eV 2) (aCons (eV 3) (aNil)))) (g := eC (.str "\n")) (Γ := [some (.val (.loc p)), some (.val (plD L ow rows)), some (.val (.int (many : Int))), some (.val (.lst (rs.map rowD4))), none, none, none, none, none, none, none, none, none, none, none, none, none, none, none, none, none, none]) (T := S) (T1 := S) (T2 := S)
    (l := jn 10 (linesT many rs ++ [[]])) (c := 10) (by simpa using lt) (by rw [l_nl]; rfl) (good_jn lk1).1 (by decide)
  rw [sp, List.map_append] at hs
  have hcut := cutD_last ((linesT many rs).map tx) (tx [])
  obtain ⟨a, S1, d1, v1, a1⟩ := drawN hp (m := (linesT many rs).length) (by omega) (by omega)
  obtain ⟨odd, S2, od, v2, ow200, ob⟩ := law_odd_lines P (v1.1 p hp) m60
  obtain ⟨c, S3, d2, v3, c1⟩ := drawN ((v1.trans v2).1 p hp) (m := (linesT many rs).length - a) (by omega) (by omega)
  obtain ⟨first, S4, pk, v4, hf⟩ := law_pick ((v1.trans (v2.trans v3)).1 p hp) picks (by simp [picks]) (by simp [picks])
  obtain ⟨f, rfl, fw, f0⟩ := picks_ok first hf
  have ea : (1 : Int) + (a : Int) = ((a + 1 : Nat) : Int) := by omega
  have en : (((linesT many rs).length : Nat) : Int) + 1 - (1 + (a : Int)) = (((linesT many rs).length - a : Nat) : Int) := by omega
  have el : (1 : Int) + (a : Int) + (c : Int) = ((a + 1 + c : Nat) : Int) := by omega
  have u1 := cut_to (l := linesT many rs) ea
  have u2 := cut_from (l := linesT many rs) ea
  have u3 := cut_mid (l := linesT many rs) ea el
  have u4 := cut_from (l := linesT many rs) el
  have z0 : ((linesT many rs).map tx).length ≤ 4000 := by rw [List.length_map]; omega
  have st1 := wr_stage1 hs hcut (fun T => by rw [o_lenL, List.length_map]) d1 rfl od u1 u2 en d2 rfl u3 u4 pk (by simp; omega) (by simp; omega) (by simp; omega) (by simp; omega) z0
  let qs : List (List (List Nat) × Nat) := [((linesT many rs).take (a + 1) ++ [odd] ++ (linesT many rs).drop (a + 1), a + 1), ((linesT many rs).take (a + 1) ++ [odd] ++ (((linesT many rs).drop (a + 1)).take (a + 1 + c - (a + 1)) ++ [wGo] ++ (linesT many rs).drop (a + 1 + c)), a + 1), ([f] ++ (linesT many rs).tail, 0), ((linesT many rs).tail, 0), ([], 0)]
  have wq : ∀ q ∈ qs, WR L ow rows q.1 q.2 := fun q hq => by
    simp only [qs, List.mem_cons, List.not_mem_nil, or_false] at hq
    rcases hq with rfl | rfl | rfl | rfl | rfl
    · exact wr_q1 P m1 m60 hok hlen (by omega) ow200 ob _ (fun l hl => wl l (List.mem_of_mem_drop hl)) (by simp; omega)
    · exact wr_q1 P m1 m60 hok hlen (by omega) ow200 ob _ (fun l hl => by
        simp only [List.mem_append, List.mem_singleton] at hl
        rcases hl with (hl | rfl) | hl
        · exact wl l (List.mem_of_mem_drop (List.mem_of_mem_take hl))
        · exact wok_go
        · exact wl l (List.mem_of_mem_drop hl)) (by simp; omega)
    · exact wr_q3 P m1 m60 hok hlen fw f0
    · exact wr_q4 P m1 m60 hok hlen
    · exact wr_q5 P
  have eq : [D.tup [.lst (((linesT many rs).take (a + 1)).map tx ++ [tx odd] ++ ((linesT many rs).drop (a + 1)).map tx), .int (1 + (a : Int))], .tup [.lst (((linesT many rs).take (a + 1)).map tx ++ [tx odd] ++ (((linesT many rs).drop (a + 1)).take (a + 1 + c - (a + 1))).map tx ++ [.str "go"] ++ ((linesT many rs).drop (a + 1 + c)).map tx), .int (1 + (a : Int))], .tup [.lst ([tx f] ++ ((linesT many rs).map tx).tail), .int 0], .tup [.lst ((linesT many rs).map tx).tail, .int 0], .tup [.lst [], .int 0]] = qs.map wD := by
    rw [l_go, ea]
    simp only [qs, wD, List.map_cons, List.map_nil, List.map_append, List.map_tail, List.append_assoc]
    rfl
  rw [eq] at st1
  have v14 := v1.trans (v2.trans (v3.trans v4))
  have ho : ∀ T, oIx T (plD L ow rows) (.int 2) = some (.tup (ow.map .int)) := fun T => by unfold plD; rw [o_ixT]; exact atI_2 _ _ _ _
  have hz : (owE ow).length ≤ 16777216 := by rw [owE]; simp; omega
  have nn := fun T => ne_nil_iD T (ownP ow)
  by_cases he : ownP ow = []
  · have lc := fun y7 => own_lcW S4 ow [some (.val (.loc p)), some (.val (plD L ow rows)), some (.val (.int (many : Int))), some (.val (.lst (rs.map rowD4))), some (.val (.lst ((linesT many rs).map tx))), some (.val (.int (1 + (a : Int)))), some (.val (tx odd)), y7, some (.val (.int (1 + (a : Int) + (c : Int)))), some (.val (tx f)), none, none, none, none, none, none, none, none, none, none, none, none] rfl
    rw [he] at lc nn
    have st2 := wr_stage2_none (qsD := qs.map wD) (ho S4) (enum_ow ow) hz lc (nn S4)
    obtain ⟨S5, e5, v5⟩ := wr_end P m1 m60 hok hlen hcov (S := S4) (p := p) (mD := .int (many : Int)) (rsD := .lst (rs.map rowD4)) (at_ := 1 + (a : Int)) (late := 1 + (a : Int) + (c : Int)) (odd := tx odd) (first := tx f) (y10 := some (.val (.lst []))) (y11 := none) (y12 := none) (y13 := none) (y14 := none) qs wq
    exact ⟨S5, wr_close (st1.trans (st2.trans e5)), v14.trans v5⟩
  · have be : (!(ownP ow).isEmpty) = true := by cases h : ownP ow with | nil => exact absurd h he | cons a b => rfl
    have nn4 := nn S4
    rw [be] at nn4
    obtain ⟨x, S5, pk5, v5, hx⟩ := law_pick (v14.1 p hp) ((ownP ow).map iD) (by rw [List.length_map]; exact List.length_pos_iff.mpr he) (by rw [List.length_map]; omega)
    obtain ⟨pl, hpl, rfl⟩ := List.mem_map.mp hx
    have o0 := ownP_mem.mp hpl
    obtain ⟨m0, S6, d6, v6, m0l⟩ := drawN ((v14.trans v5).1 p hp) (m := many) m1 (by omega)
    have lessL : (less pl rs).length ≤ rs.length := List.length_filter_le _ _
    have sml : ∀ r ∈ less pl rs, Small r := fun r hr => hsm r (List.mem_filter.mp hr).1
    have lc := fun y7 => own_lcW S4 ow [some (.val (.loc p)), some (.val (plD L ow rows)), some (.val (.int (many : Int))), some (.val (.lst (rs.map rowD4))), some (.val (.lst ((linesT many rs).map tx))), some (.val (.int (1 + (a : Int)))), some (.val (tx odd)), y7, some (.val (.int (1 + (a : Int) + (c : Int)))), some (.val (tx f)), none, none, none, none, none, none, none, none, none, none, none, none] rfl
    have lc2 := fun y7 => less_lc S5 rs pl [some (.val (.loc p)), some (.val (plD L ow rows)), some (.val (.int (many : Int))), some (.val (.lst (rs.map rowD4))), some (.val (.lst ((linesT many rs).map tx))), some (.val (.int (1 + (a : Int)))), some (.val (tx odd)), y7, some (.val (.int (1 + (a : Int) + (c : Int)))), some (.val (tx f)), some (.val (.lst ((ownP ow).map iD))), some (.val (iD pl)), none, none, none, none, none, none, none, none, none, none] rfl rfl
    have lc3 := fun y7 => line_lc S5 (less pl rs) sml [some (.val (.loc p)), some (.val (plD L ow rows)), some (.val (.int (many : Int))), some (.val (.lst (rs.map rowD4))), some (.val (.lst ((linesT many rs).map tx))), some (.val (.int (1 + (a : Int)))), some (.val (tx odd)), y7, some (.val (.int (1 + (a : Int) + (c : Int)))), some (.val (tx f)), some (.val (.lst ((ownP ow).map iD))), some (.val (iD pl)), some (.val (.lst ((less pl rs).map rowD4))), none, none, none, none, none, none, none, none, none] rfl
    have mem1 : ∀ T, oAdd T (.str "memories ") (tx (TL.numL many)) = some (tx (memL many)) := fun T => by
      rw [l_memsp, tadd T _ _ (by have := num_len (n := many) (by omega); simp [wMem]; omega)]
      simp [memL, jn, TL.joinL]
    have lp := fun y7 => each_loop S6 (ownP ow) (fun x hx => by have := (List.getElem?_eq_some_iff.mp (ownP_mem.mp hx)).1; omega) (by omega) m0 pl (some (.val (.loc p))) (some (.val (plD L ow rows))) (some (.val (.int (many : Int)))) (some (.val (.lst (rs.map rowD4)))) (some (.val (.lst ((linesT many rs).map tx)))) (some (.val (.int (1 + (a : Int))))) (some (.val (tx odd))) y7 (some (.val (.int (1 + (a : Int) + (c : Int))))) (some (.val (tx f))) (some (.val (.lst (tx (memL many) :: ((less pl rs).map lineL).map tx)))) (List.range many) [tx (memL many)] (fun m hm => by have := List.mem_range.mp hm; omega) (by simp; omega)
    have st2 := wr_stage2_some (qsD := qs.map wD) (n1 := ((linesT many (less pl rs)).length : Nat)) (n2 := ((linesT many ((List.range many).flatMap (eachR m0 pl (ownP ow)))).length : Nat)) (ho S4) (enum_ow ow) hz lc nn4 pk5 (by rw [List.length_map]; omega) lc2 (by rw [List.length_map]; omega) lc3 (by rw [List.length_map, List.length_map]; omega) (str_num S5 many (by omega)) (mem1 S5) (str_num S6 many (by omega)) (mem1 S6)
      (fun T => by rw [o_lenL]; simp [linesT]) (by simp [qs]) (iD m0) d6 (rgN (n := many) (by omega)) lp (fun T => by rw [o_lenL]; simp [linesT])
    let qs2 : List (List (List Nat) × Nat) := qs ++ [(linesT many (less pl rs), (linesT many (less pl rs)).length), (linesT many ((List.range many).flatMap (eachR m0 pl (ownP ow))), (linesT many ((List.range many).flatMap (eachR m0 pl (ownP ow)))).length)]
    have wq2 : ∀ q ∈ qs2, WR L ow rows q.1 q.2 := fun q hq => by
      rcases List.mem_append.mp hq with hq | hq
      · exact wq q hq
      · simp only [List.mem_cons, List.not_mem_nil, or_false] at hq
        rcases hq with rfl | rfl
        · exact wr_q6 P m1 m60 hok hlen o0
        · exact wr_q7 P m1 m60 m0l o0
    have eq2 : qs.map wD ++ [D.tup [.lst (tx (memL many) :: ((less pl rs).map lineL).map tx), .int ((linesT many (less pl rs)).length : Nat)], .tup [.lst ([tx (memL many)] ++ (((List.range many).flatMap (eachR m0 pl (ownP ow))).map lineL).map tx), .int ((linesT many ((List.range many).flatMap (eachR m0 pl (ownP ow)))).length : Nat)]] = qs2.map wD := by
      simp only [qs2, wD, List.map_cons, List.map_nil, List.map_append, linesT]
      rfl
    rw [eq2] at st2
    obtain ⟨S7, e7, v7⟩ := wr_end P m1 m60 hok hlen hcov (S := S6) (p := p) (mD := .int (many : Int)) (rsD := .lst (rs.map rowD4)) (at_ := 1 + (a : Int)) (late := 1 + (a : Int) + (c : Int)) (odd := tx odd) (first := tx f) (y10 := some (.val (.lst ((ownP ow).map iD)))) (y11 := some (.val (iD pl))) (y12 := some (.val (.lst (tx (memL many) :: ((less pl rs).map lineL).map tx)))) (y13 := some (.val (iD m0))) (y14 := some (.val (.lst ([tx (memL many)] ++ (((List.range many).flatMap (eachR m0 pl (ownP ow))).map lineL).map tx)))) qs2 wq2
    exact ⟨S7, wr_close (st1.trans (st2.trans e7)), v14.trans (v5.trans (v6.trans v7))⟩
end
end K75
set_option Elab.async false
set_option linter.all false
set_option maxRecDepth 100000
set_option maxHeartbeats 4000000
namespace K75
open PySem L2 DL SX
theorem right_core {T T1 T2 T3 T4 T5 T6 T7 T8 T9 T10 T11 T12 : Store} {p : Nat} {a Lq b n c many : Int} {pl hd rsD hrD due odd : D} {txt txt2 : PySem.Str} {x0 x1 x2 x3 x4 : PySem.Str}
    (d1 : F__law_draw [.loc p, .int 4] T = .ok (.int a) T1) (eL : 1 + a = Lq) (d2 : F__law_draw [.loc p, .int 4] T1 = .ok (.int b) T2) (en : 1 + b = n) (hp : F__law_plant [.loc p, .int Lq, .int n] T2 = .ok pl T3)
    (pk : F__law_pick [.loc p, .lst [.int 0, .int 1, .int 2, .int 3, .int 11]] T3 = .ok (.int c) T4) (em : 1 + c = many) (hh : F__law_hand [.loc p, pl, .int many] T4 = .ok hd T5) (dr : F__law_drawn_rows [.loc p, pl, .int many] T5 = .ok rsD T6)
    (r0 : ∀ T, bRepr T [.lst [pl, hd]] = some (.str x0)) (lr : F__law_rows [hd] T6 = .ok hrD T6) (lt : F__law_text [.int many, hrD] T6 = .ok (.str txt) T6) (ht : F_hand_text [pl, hd] T6 = .ok (.str txt) T6) (r1 : ∀ T, bRepr T [.lst [.str txt, .str txt]] = some (.str x1))
    (h1 : F_hand_of_text [pl, .str txt] T6 = .ok hd T7) (h2 : F_hand_of_text [pl, .str txt] T7 = .ok hd T8) (r2 : ∀ T, bRepr T [.lst [hd, hd]] = some (.str x2)) (tl : F__law_told [pl, .int many, rsD] T8 = .ok due T8)
    (lt2 : F__law_text [.int many, rsD] T8 = .ok (.str txt2) T8) (h3 : F__law_heard [pl, .str txt2] T8 = .ok due T9) (r3 : ∀ T, bRepr T [due] = some (.str x3))
    (pk2 : F__law_pick [.loc p, .lst [.non, .int 0, .bl true, .lst [], .lst [.str txt], .tup [.str txt], .emp]] T9 = .ok odd T10) (h4 : F__law_heard [pl, odd] T10 = .ok (.lst [.str "text", odd, .bl true]) T11) (r4 : ∀ T, bRepr T [.lst [.str "text", odd, .bl true]] = some (.str x4))
    (wr : F__law_wrong_right [.loc p, pl, .int many, rsD] T11 = .ok (.bl true) T12) : F__law_right [.loc p] T = .ok (.bl true) T12 := by
  simp [F__law_right, fnOf, g__law_right, setM, perm, d1, eL, d2, en, hp, pk, em, hh, dr, r0, lr, lt, ht, r1, h1, h2, r2, tl, lt2, h3, r3, pk2, h4, r4, wr]
end K75
set_option Elab.async false
set_option linter.all false
set_option maxRecDepth 100000
set_option maxHeartbeats 4000000
namespace K75
open PySem L2 DL SX
theorem hrows_len2 {ow : List Int} {rows : List (List Mv)} {many : Nat} {tk : List (List (Option Nat))} {nx : List (List Nat)} (H : HOk ow rows many tk nx) : (hrows tk nx).length ≤ (ow.length + (mvs rows).length) * many := by
  have key : ∀ l : List Nat, (∀ m ∈ l, m < many) → (l.flatMap (hR tk nx)).length ≤ (ow.length + (mvs rows).length) * l.length := by
    intro l
    induction l with
    | nil => intro _; simp
    | cons m l ih =>
      intro h
      have h1 := ih fun x hx => h x (by simp [hx])
      have h2 := h m (by simp)
      have hm1 : m < tk.length := by rw [H.lt]; exact h2
      have hm2 : m < nx.length := by rw [H.ln]; exact h2
      have g1 := hT_len m tk[m]
      have g2 := hN_len m nx[m]
      have l1 := H.tl _ (List.getElem_mem hm1)
      have l2 := H.nl _ (List.getElem_mem hm2)
      have eR : hR tk nx m = hT m tk[m] ++ hN m nx[m] := by rw [hR, List.getElem?_eq_getElem hm1, List.getElem?_eq_getElem hm2]; rfl
      rw [List.flatMap_cons, List.length_append, eR, List.length_append, List.length_cons, Nat.mul_add]
      omega
  have := key (List.range tk.length) fun m hm => by rw [← H.lt]; exact List.mem_range.mp hm
  rw [List.length_range, H.lt] at this
  unfold hrows
  rw [H.lt]
  exact this
theorem text_len {ls : List (List Nat)} {n : Nat} (h : LinesOk ls) (hn : ls.length ≤ n) : (jn 10 (ls ++ [[]])).length ≤ 202 * n + 1 := by
  have h1 := jn_length 10 (ls ++ [[]])
  have h2 := sum_le h.wok
  simp only [List.map_append, List.sum_append, List.map_cons, List.map_nil, List.sum_cons, List.sum_nil, List.length_append, List.length_cons, List.length_nil] at h1
  have h3 : 200 * ls.length ≤ 200 * n := Nat.mul_le_mul_left _ hn
  omega
theorem text_signs {ls : List (List Nat)} (h : LinesOk ls) : ∀ c ∈ jn 10 (ls ++ [[]]), c < 1000 := fun x hx => by
  rcases mem_jn hx with h1 | ⟨l, h1, h2⟩
  · omega
  · rcases List.mem_append.mp h1 with h1 | h1
    · exact (h.wok l h1).2.2 x h2
    · simp at h1; subst h1; cases h2
/-- values that are no strings -/
theorem odd_vals {txt : List Nat} (h1 : txt.length ≤ 100000) (h2 : ∀ c ∈ txt, c < 1000) : ∀ x ∈ [D.non, .int 0, .bl true, .lst [], .lst [tx txt], .tup [tx txt], .emp], (∃ k : Kd, k.isa .str = false ∧ ∀ T, kdOf T x = some k) ∧ Pk x 3 100001 := by
  intro x hx
  have pt := pk_tx h2
  simp only [List.mem_cons, List.not_mem_nil, or_false] at hx
  rcases hx with rfl | rfl | rfl | rfl | rfl | rfl | rfl
  · exact ⟨⟨.non, rfl, fun _ => rfl⟩, pk_non.mono (by omega) (by omega)⟩
  · exact ⟨⟨.int, rfl, fun _ => rfl⟩, (pk_int (by decide)).mono (by omega) (by omega)⟩
  · exact ⟨⟨.bl, rfl, fun _ => rfl⟩, (pk_bl _).mono (by omega) (by omega)⟩
  · exact ⟨⟨.lst, rfl, fun _ => rfl⟩, (pk_lst (ds := []) (dp := 0) (b := 0) (n := 0) (fun _ h => by cases h) (by simp)).mono (by omega) (by omega)⟩
  · exact ⟨⟨.lst, rfl, fun _ => rfl⟩, (pk_lst (ds := [tx txt]) (n := 1) (fun d hd => by simp only [List.mem_singleton] at hd; subst hd; exact pt) (by simp)).mono (by omega) (by omega)⟩
  · exact ⟨⟨.tup, rfl, fun _ => rfl⟩, (pk_tup (ds := [tx txt]) (n := 1) (fun d hd => by simp only [List.mem_singleton] at hd; subst hd; exact pt) (by simp)).mono (by omega) (by omega)⟩
  · exact ⟨⟨.dict, rfl, fun _ => rfl⟩, pk_emp.mono (by omega) (by omega)⟩
section
variable {L : Int} {ow : List Int} {rows : List (List Mv)} (P : PlOk L ow rows)
include P
theorem first_small {many : Nat} {rs : List Row} (hok : ∀ r ∈ rs, RowOk ow rows many r) {go : Bool} {k : Ky} {f : Nat} (h : firstR rs go k = some f) : f < 1000000 := by
  unfold firstR at h
  cases e : rs.find? (fits go k) with
  | none => rw [e] at h; cases h
  | some r => rw [e] at h; cases h; exact (hok r (List.mem_of_find?_eq_some e)).small.2
theorem pk_told {many : Nat} (m60 : many ≤ 60) {rs : List Row} (hok : ∀ r ∈ rs, RowOk ow rows many r) : Pk (hdN (toldT rs ow.length many) (toldN rs (mvs rows).length many)) 3 (3 * 12061) := by
  have h24 := P.n24
  have hl := P.len
  have h200 := mvs_le P
  refine pk_hd (by rw [toldT]; simp; exact m60) (by rw [toldN]; simp; exact m60) (fun t ht => ?_) (fun n hn => ?_) (fun t ht k hk => ?_) (fun n hn k hk => ?_)
  · rw [toldT, List.mem_map] at ht
    obtain ⟨m, _, rfl⟩ := ht
    simp; omega
  · rw [toldN, List.mem_map] at hn
    obtain ⟨m, _, rfl⟩ := hn
    simp; exact h200
  · rw [toldT, List.mem_map] at ht
    obtain ⟨m, _, rfl⟩ := ht
    obtain ⟨p, _, e⟩ := List.mem_map.mp hk
    have := first_small P hok e
    omega
  · rw [toldN, List.mem_map] at hn
    obtain ⟨m, hm, rfl⟩ := hn
    obtain ⟨p, _, rfl⟩ := List.mem_map.mp hk
    have := List.mem_range.mp hm
    cases e : firstR rs true (m, p) with
    | none => simp; omega
    | some f => have := first_small P hok e; simp; omega
end
theorem picks5 {c : D} (h : c ∈ [D.int 0, .int 1, .int 2, .int 3, .int 11]) : ∃ n : Nat, c = .int (n : Int) ∧ n ≤ 11 := by
  simp only [List.mem_cons, List.not_mem_nil, or_false] at h
  rcases h with rfl | rfl | rfl | rfl | rfl
  · exact ⟨0, rfl, by omega⟩
  · exact ⟨1, rfl, by omega⟩
  · exact ⟨2, rfl, by omega⟩
  · exact ⟨3, rfl, by omega⟩
  · exact ⟨11, rfl, by omega⟩
theorem law_right {S : Store} {p : Nat} (hp : Pot S p) (hnl : NL S) : ∃ S', F__law_right [.loc p] S = .ok (.bl true) S' ∧ Evo S S' := by
  obtain ⟨a, S1, d1, v1, a0, a1⟩ := draw hp (m := 4) (by omega) (by omega)
  obtain ⟨b, S2, d2, v2, b0, b1⟩ := draw (v1.1 p hp) (m := 4) (by omega) (by omega)
  obtain ⟨ow, rows, S3, e3, v3, P, rn, r4⟩ := law_plant (L := 1 + a) (n := 1 + b) (by omega) (by omega) (by omega) (by omega) ((v1.trans v2).1 p hp)
  have v13 := v1.trans (v2.trans v3)
  obtain ⟨c0, S4, pk, v4, hc⟩ := law_pick (v13.1 p hp) [.int 0, .int 1, .int 2, .int 3, .int 11] (by simp) (by simp)
  obtain ⟨c, rfl, c11⟩ := picks5 hc
  have v14 := v13.trans v4
  have m1 : 1 ≤ c + 1 := by omega
  have m60 : c + 1 ≤ 60 := by omega
  have em : (1 : Int) + (c : Int) = ((c + 1 : Nat) : Int) := by omega
  generalize hM : c + 1 = many at m1 m60 em
  have m12 : many ≤ 12 := by omega
  obtain ⟨tk, nx, S5, e5, v5, H⟩ := law_hand P m1 m60 (v14.1 p hp)
  have v15 := v14.trans v5
  obtain ⟨rs, S6, e6, v6, rok, rlen, rcov⟩ := law_drawn_rows P (v15.1 p hp) (v15.2 hnl) m1 m60
  have v16 := v15.trans v6
  have h24 := P.n24
  have hl := P.len
  have h200 := mvs_le P
  have mv16 : (mvs rows).length ≤ 16 := by
    rw [mvs, mvsA_length]
    have : ∀ l : List (List Mv), (∀ r ∈ l, r.length ≤ 4) → (l.map List.length).sum ≤ 4 * l.length := fun l h => by
      induction l with
      | nil => simp
      | cons a l ih =>
        have := ih fun r hr => h r (by simp [hr])
        have := h a (by simp)
        simp only [List.map_cons, List.sum_cons, List.length_cons]
        omega
    have := this rows r4
    omega
  have hrl : (hrows tk nx).length ≤ 240 := by
    have h1 := hrows_len2 H
    have h2 : (ow.length + (mvs rows).length) * many ≤ 20 * 12 := Nat.mul_le_mul (by omega) m12
    omega
  have hrok : ∀ r ∈ hrows tk nx, RowOk ow rows many r := fun r hr => hrows_ok P H hr m60
  have hrs : ∀ r ∈ hrows tk nx, Small r := fun r hr => rowok_small P m60 (hrok r hr)
  have rss : ∀ r ∈ rs, Small r := fun r hr => rowok_small P m60 (rok r hr)
  have lk := lok_lines P m1 m60 hrok (by omega)
  have lk2 := lok_lines P m1 m60 rok (by omega)
  have ll : (linesT many (hrows tk nx)).length ≤ 241 := by rw [linesT, List.length_cons, List.length_map]; omega
  have ll2 : (linesT many rs).length ≤ 101 := by rw [linesT, List.length_cons, List.length_map]; omega
  have tlen := text_len lk ll
  have tsig := text_signs lk
  have lr := law_rows S6 P H m60
  have lt := law_text S6 many (hrows tk nx) (by omega) hrs (by omega)
  have MO := H.mok m1 m60
  have wh : F_want_hand [plD (1 + a) ow rows, hdN tk nx] S6 = .ok (hdN tk nx) S6 := by rw [hdN_eq]; exact want_hand S6 P MO
  have ht := hand_text_core S6 (plD (1 + a) ow rows) (hdN tk nx) (linesT many (hrows tk nx)) (fun l hl => (linesT_ok (by omega) hrs l hl).1) (by omega) (want_plant S6 P) wh (lines_of S6 P H m60)
  have hall := fun m q h1 h2 => hrows_all P H m q h1 h2
  have hh := fun T => hot_hand P T (mm_mem P m1 m60) m60 (by omega : (hrows tk nx).length < 3900) hall (ls := linesT many (hrows tk nx)) (tl := (hrows tk nx).map lineL) rfl lk (by omega) (rows_parse P m1 m60 hrok)
  obtain ⟨t1, t2⟩ := told_hrows P H
  rw [t1, t2] at hh
  obtain ⟨S7, h1, v7⟩ := hh S6
  obtain ⟨S8, h2, v8⟩ := hh S7
  have tl := law_told P S8 rs (by omega) many m60
  have lt2 := law_text S8 many rs (by omega) rss (by omega)
  obtain ⟨S9, h3, v9⟩ := hot_hand P S8 (mm_mem P m1 m60) m60 (by omega : rs.length < 3900) (cov_all P m1 m60 rok (by omega) rcov) (ls := linesT many rs) (tl := rs.map lineL) rfl lk2 (by omega) (rows_parse P m1 m60 rok)
  have v19 := v16.trans (v7.trans (v8.trans v9))
  obtain ⟨odd, S10, pk2, v10, ho⟩ := law_pick (v19.1 p hp) [.non, .int 0, .bl true, .lst [], .lst [tx (jn 10 (linesT many (hrows tk nx) ++ [[]]))], .tup [tx (jn 10 (linesT many (hrows tk nx) ++ [[]]))], .emp] (by simp) (by simp)
  obtain ⟨⟨k, ks, kk⟩, op⟩ := odd_vals (txt := jn 10 (linesT many (hrows tk nx) ++ [[]])) (by omega) tsig odd ho
  have h4 := heard_text (hot_odd k (kk S10) ks (want_plant S10 P))
  obtain ⟨S12, wr, v12⟩ := law_wrong_right P m1 m60 rok (by omega) rcov ((v19.trans v10).1 p hp)
  have ph : Pk (hdN tk nx) 3 (3 * 12061) := by
    have := pk_told P m60 hrok
    rw [t1, t2] at this
    exact this
  obtain ⟨x0, r0⟩ := rp_of (pk_two ((pk_pl P).mono (dp' := 4) (b' := 40000) (by omega) (by omega)) (ph.mono (dp' := 4) (b' := 40000) (by omega) (by omega))) rfl (by omega) (by omega)
  obtain ⟨x1, r1⟩ := rp_of (pk_two (pk_tx tsig) (pk_tx tsig)) rfl (by omega) (by omega)
  obtain ⟨x2, r2⟩ := rp_of (pk_two ph ph) rfl (by omega) (by omega)
  obtain ⟨x3, r3⟩ := rp_of (pk_told P m60 rok) rfl (by omega) (by omega)
  obtain ⟨x4, r4'⟩ := rp_of (pk_text op (by omega)) rfl (by omega) (by omega)
  exact ⟨S12, right_core d1 rfl d2 rfl e3 pk em e5 e6 r0 lr lt ht r1 h1 h2 r2 tl lt2 (heard_ok h3) r3 pk2 h4 r4' wr, v19.trans (v10.trans v12)⟩
end K75
set_option Elab.async false
set_option linter.all false
set_option maxRecDepth 100000
set_option maxHeartbeats 4000000
namespace K75
open PySem L2 DL SX
def ow0 : List Int := [0, 1]
def rows0 : List (List Mv) := [[(0, 0), (1, 1)], [(0, 0), (1, 0)]]
theorem pl0_ok : PlOk 2 ow0 rows0 where
  l1 := by decide
  l4 := by decide
  len := rfl
  n1 := by decide
  n24 := by decide
  own := by decide
  row := by decide
  mv := by decide
  inc := by decide
  tot := by decide
theorem mvs0 : (mvs rows0).length = 4 := rfl
def rs0 (a : Nat) : List Row := [⟨false, some a, 0, 1⟩, ⟨false, none, 0, 0⟩, ⟨true, none, 1, 59⟩, ⟨true, some 59, 1, 0⟩]
theorem rs0_ok {a : Nat} (h : a < 60) : ∀ r ∈ rs0 a, RowOk ow0 rows0 60 r := by
  intro r hr
  simp only [rs0, List.mem_cons, List.not_mem_nil, or_false] at hr
  rcases hr with rfl | rfl | rfl | rfl
  · exact ⟨fun m e => by cases e; exact h, fun _ => (by decide : (0 : Nat) < 2 ∧ ow0[0]? = some 0 ∧ 1 < (rows0[0]?.getD []).length), fun e => (by cases e), ⟨by show (0 : Nat) < 1000000; omega, by show (1 : Nat) < 1000000; omega⟩⟩
  · exact ⟨fun m e => (by cases e), fun _ => by decide, fun e => (by cases e), by decide⟩
  · exact ⟨fun m e => (by cases e), fun e => (by cases e), fun _ => by rw [mvs0]; decide, by decide⟩
  · exact ⟨fun m e => by cases e; omega, fun e => (by cases e), fun _ => by rw [mvs0]; decide, by decide⟩
theorem told0T (a : Nat) : toldT (rs0 a) 2 60 = (List.range 60).map fun m => [some (if m = a then 1 else 0), none] := by
  refine List.map_congr_left fun m _ => ?_
  have e : List.range 2 = [0, 1] := rfl
  rw [e]
  simp only [List.map_cons, List.map_nil, firstR, rs0]
  by_cases h : m = a
  · subst h
    simp [List.find?_cons, fits]
  · have h' : ¬ a = m := fun e => h e.symm
    simp [List.find?_cons, fits, h, h']
theorem told0N (a : Nat) : toldN (rs0 a) 4 60 = (List.range 60).map fun m => [m, 59, m, m] := by
  refine List.map_congr_left fun m _ => ?_
  have e : List.range 4 = [0, 1, 2, 3] := rfl
  rw [e]
  simp [firstR, rs0, List.find?_cons, fits]
theorem long_text (a : Nat) : jn 10 (linesT 60 (rs0 a) ++ [[]]) = [109, 101, 109, 111, 114, 105, 101, 115, 32, 54, 48, 10, 105, 110, 32] ++ TL.numL a ++ [32, 97, 116, 32, 48, 32, 116, 97, 107, 101, 32, 49, 10, 105, 110, 32, 42, 32, 97, 116, 32, 48, 32, 116, 97, 107, 101, 32, 48, 10, 105, 110, 32, 42, 32, 97, 102, 116, 101, 114, 32, 49, 32, 103, 111, 32, 53, 57, 10, 105, 110, 32, 53, 57, 32, 97, 102, 116, 101, 114, 32, 49, 32, 103, 111, 32, 48, 10] := by
  have n0 : TL.numL 0 = [48] := by decide +kernel
  have n1 : TL.numL 1 = [49] := by decide +kernel
  have n59 : TL.numL 59 = [53, 57] := by decide +kernel
  have n60 : TL.numL 60 = [54, 48] := by decide +kernel
  simp [linesT, rs0, lineL, lineW, memL, memW, jn, TL.joinL, n0, n1, n59, n60, wIn, wAt, wAfter, wTake, wGo, wMem]
theorem l_long1 : ("memories 60\nin " : PySem.Str) = S [109, 101, 109, 111, 114, 105, 101, 115, 32, 54, 48, 10, 105, 110, 32] := by decide +kernel
theorem l_long2 : (" at 0 take 1\nin * at 0 take 0\nin * after 1 go 59\nin 59 after 1 go 0\n" : PySem.Str) = S [32, 97, 116, 32, 48, 32, 116, 97, 107, 101, 32, 49, 10, 105, 110, 32, 42, 32, 97, 116, 32, 48, 32, 116, 97, 107, 101, 32, 48, 10, 105, 110, 32, 42, 32, 97, 102, 116, 101, 114, 32, 49, 32, 103, 111, 32, 53, 57, 10, 105, 110, 32, 53, 57, 32, 97, 102, 116, 101, 114, 32, 49, 32, 103, 111, 32, 48, 10] := by decide +kernel
theorem long_core {S S1 S2 : Store} {p : Nat} {at_ : Int} {sa t1 txt : PySem.Str} {x : PySem.Str} {zs tk nx : List D}
    (d : F__law_draw [.loc p, .int 60] S = .ok (.int at_) S1) (es : bStr S1 [.int at_] = some (.str sa)) (a1 : oAdd S1 (.str "memories 60\nin ") (.str sa) = some (.str t1)) (a2 : oAdd S1 (.str t1) (.str " at 0 take 1\nin * at 0 take 0\nin * after 1 go 59\nin 59 after 1 go 0\n") = some (.str txt))
    (sx : Int) (ex : sx = 60) (rg : rangeD [.int sx] = some zs) (hz : zs.length ≤ 16777216)
    (l1 : lcL lt1__law_long_right bYes lf1__law_long_right [some (.val (.loc p)), some (.val (plD 2 ow0 rows0)), some (.val (.int at_)), some (.val (.str txt)), none, none, none] zs S1 = .ok tk S1)
    (l2 : ∀ y4, lcL lt2__law_long_right bYes lf2__law_long_right [some (.val (.loc p)), some (.val (plD 2 ow0 rows0)), some (.val (.int at_)), some (.val (.str txt)), y4, none, none] zs S1 = .ok nx S1)
    (h : F_hand_of_text [plD 2 ow0 rows0, .str txt] S1 = .ok (.tup [.str "hand", .tup tk, .tup nx]) S2) (r : ∀ T, bRepr T [.tup [.str "hand", .tup tk, .tup nx]] = some (.str x)) : F__law_long_right [.loc p] S = .ok (.bl true) S2 := by
  subst ex
  have ep : plD 2 ow0 rows0 = .tup [.str "plant", .int 2, .tup [.int 0, .int 1], .tup [.tup [.tup [.int 0, .int 0], .tup [.int 1, .int 1]], .tup [.tup [.int 0, .int 0], .tup [.int 1, .int 0]]]] := by simp [plD, ow0, rows0, rowD, tI2]
  rw [ep] at l1 l2 h
  simp [F__law_long_right, fnOf, g__law_long_right, d, es, a1, a2, rg, hz, l1, l2, h, r, -o_strI, -DL.o_addS]
theorem law_long_right {S : Store} {p : Nat} (hp : Pot S p) : ∃ S', F__law_long_right [.loc p] S = .ok (.bl true) S' ∧ Evo S S' := by
  obtain ⟨a, S1, d, v1, ha⟩ := drawN hp (m := 60) (by omega) (by omega)
  have P := pl0_ok
  have rok := rs0_ok ha
  have lk := lok_lines P (by omega) (by omega : 60 ≤ 60) rok (by simp [rs0])
  have la := num_len (n := a) (by omega)
  have hall : ∀ m q, m < 60 → ow0[q]? = some 0 → firstR (rs0 a) false (m, q) ≠ none := fun m q _ hq => by
    rw [Ne, firstR_none]
    intro h
    have q0 : q = 0 := by
      have ql := (List.getElem?_eq_some_iff.mp hq).1
      have : q < 2 := ql
      cases q with
      | zero => rfl
      | succ q =>
        obtain rfl : q = 0 := by omega
        simp [ow0] at hq
    subst q0
    exact h ⟨false, none, 0, 0⟩ (by simp [rs0]) (by simp [fits])
  obtain ⟨S2, h, v2⟩ := hot_hand P S1 (mm_mem P (by omega) (by omega : 60 ≤ 60)) (by omega : 60 ≤ 60) (by simp [rs0] : (rs0 a).length < 3900) hall (ls := linesT 60 (rs0 a)) (tl := (rs0 a).map lineL) rfl lk (by simp [linesT, rs0]) (rows_parse P (by omega) (by omega) rok)
  have eo : ow0.length = 2 := rfl
  have pk := pk_told P (by omega : 60 ≤ 60) rok
  rw [eo, mvs0, told0T, told0N] at h pk
  rw [long_text] at h
  obtain ⟨x, r⟩ := rp_of pk rfl (by omega) (by omega)
  have l1 := lcL_all (t := lt1__law_long_right) (f := lf1__law_long_right) (S := S1) (Γ := [some (.val (.loc p)), some (.val (plD 2 ow0 rows0)), some (.val (.int (a : Int))), some (.val (tx ([109, 101, 109, 111, 114, 105, 101, 115, 32, 54, 48, 10, 105, 110, 32] ++ TL.numL a ++ [32, 97, 116, 32, 48, 32, 116, 97, 107, 101, 32, 49, 10, 105, 110, 32, 42, 32, 97, 116, 32, 48, 32, 116, 97, 107, 101, 32, 48, 10, 105, 110, 32, 42, 32, 97, 102, 116, 101, 114, 32, 49, 32, 103, 111, 32, 53, 57, 10, 105, 110, 32, 53, 57, 32, 97, 102, 116, 101, 114, 32, 49, 32, 103, 111, 32, 48, 10]))), none, none, none]) iD (fun m => tkN [some (if m = a then 1 else 0), none]) (List.range 60) fun m _ => by
    have e : (((m : Nat) : Int) = (a : Nat)) = (m = a) := by rw [eq_iff_iff]; omega
    by_cases hm : m = a <;> simp [lt1__law_long_right, lf1__law_long_right, iD, e, hm, tkN, opN]
  have l2 := fun y4 => lcL_all (t := lt2__law_long_right) (f := lf2__law_long_right) (S := S1) (Γ := [some (.val (.loc p)), some (.val (plD 2 ow0 rows0)), some (.val (.int (a : Int))), some (.val (tx ([109, 101, 109, 111, 114, 105, 101, 115, 32, 54, 48, 10, 105, 110, 32] ++ TL.numL a ++ [32, 97, 116, 32, 48, 32, 116, 97, 107, 101, 32, 49, 10, 105, 110, 32, 42, 32, 97, 116, 32, 48, 32, 116, 97, 107, 101, 32, 48, 10, 105, 110, 32, 42, 32, 97, 102, 116, 101, 114, 32, 49, 32, 103, 111, 32, 53, 57, 10, 105, 110, 32, 53, 57, 32, 97, 102, 116, 101, 114, 32, 49, 32, 103, 111, 32, 48, 10]))), y4, none, none]) iD (fun m => nxN [m, 59, m, m]) (List.range 60) fun m _ => by
    simp [lt2__law_long_right, lf2__law_long_right, iD, nxN]
  have e1 : ((List.range 60).map fun m => [some (if m = a then 1 else 0), none]).map tkN = (List.range 60).map fun m => tkN [some (if m = a then 1 else 0), none] := by rw [List.map_map]; rfl
  have e2 : ((List.range 60).map fun m => [m, 59, m, m]).map nxN = (List.range 60).map fun m => nxN [m, 59, m, m] := by rw [List.map_map]; rfl
  simp only [hdN] at h r
  rw [e1, e2] at h r
  exact ⟨S2, long_core d (str_num S1 a (by omega)) (by rw [l_long1]; exact tadd' S1 _ _ _ (by simp; omega) rfl) (by rw [l_long2]; exact tadd' S1 _ _ _ (by simp; omega) rfl) ((60 : Nat) : Int) rfl (rgN (n := 60) (by omega)) (by rw [iD_len]; omega) l1 l2 h r, v1.trans v2⟩
end K75
set_option Elab.async false
set_option linter.all false
set_option maxRecDepth 100000
set_option maxHeartbeats 4000000
namespace K75
open PySem L2 DL SX
theorem pots_lc (ns : List Int) : ∀ (l : List Nat) (S : Store), (∀ k ∈ l, k < 100) → NL S → ∃ (ds : List D) (S' : Store), (∀ x1, lcL lt1_law bYes lf1_law [some (.val (.kst (ns.map .int))), x1, none, none] (l.map iD) S = .ok ds S') ∧ Evo S S' ∧ ds.length = l.length ∧ ∀ d ∈ ds, ∃ p, d = .loc p ∧ Pot S' p := by
  intro l
  induction l with
  | nil => intro S _ _; exact ⟨[], S, fun _ => rfl, Evo.refl S, rfl, fun _ h => by cases h⟩
  | cons k l ih =>
    intro S hk hn
    have h100 := hk k (by simp)
    obtain ⟨S1, e1, v1, p1, _⟩ := law_pot S ns (k : Int) (by omega) (by omega)
    obtain ⟨ds, S2, e2, v2, l2, h2⟩ := ih S1 (fun q hq => hk q (by simp [hq])) (v1.2 hn)
    refine ⟨.loc S.length :: ds, S2, fun x1 => ?_, v1.trans v2, by simp [l2], fun d hd => ?_⟩
    · have e2 := e2 x1
      rw [List.map_cons]
      have h5 : (lt1_law.run (iD k) [some (.val (.kst (ns.map .int))), x1, none, none]).elim .no (fun Γ1 => lf1_law Γ1 S) = .ok (.loc S.length) S1 := by
        simp [lt1_law, lf1_law, iD, e1]
      unfold lcL
      cases e : lt1_law.run (iD k) [some (.val (.kst (ns.map .int))), x1, none, none] with
      | none => rw [e] at h5; cases h5
      | some Γ1 =>
        rw [e] at h5
        simp only [Option.elim_some] at h5
        simp [h5, e2]
    · rcases List.mem_cons.mp hd with rfl | hd
      · exact ⟨_, rfl, v2.1 _ p1⟩
      · exact h2 d hd
theorem rights_lc (x0 x1 : Option Sl) : ∀ (ds : List D) (S : Store), NL S → (∀ d ∈ ds, ∃ p, d = .loc p ∧ Pot S p) → ∃ S', lcL lt2_law bYes lf2_law [x0, x1, none, none] ds S = .ok (ds.map fun _ => .bl true) S' ∧ Evo S S' := by
  intro ds
  induction ds with
  | nil => intro S _ _; exact ⟨S, rfl, Evo.refl S⟩
  | cons d ds ih =>
    intro S hn h
    obtain ⟨p, rfl, hp⟩ := h d (by simp)
    obtain ⟨S1, e1, v1⟩ := law_right hp hn
    obtain ⟨S2, e2, v2⟩ := ih S1 (v1.2 hn) fun q hq => by
      obtain ⟨p', e, k⟩ := h q (by simp [hq])
      exact ⟨p', e, v1.1 p' k⟩
    refine ⟨S2, ?_, v1.trans v2⟩
    rw [List.map_cons]
    have h5 : (lt2_law.run (.loc p) [x0, x1, none, none]).elim .no (fun Γ1 => lf2_law Γ1 S) = .ok (.bl true) S1 := by
      simp [lt2_law, lf2_law, e1]
    unfold lcL
    cases e : lt2_law.run (.loc p) [x0, x1, none, none] with
    | none => rw [e] at h5; cases h5
    | some Γ1 =>
      rw [e] at h5
      simp only [Option.elim_some] at h5
      simp [h5, e2]
theorem law_core {S S1 S2 S3 : Store} {scr : D} {n m k : Int} {zs : List D} {d0 : D} {ds bs : List D} (hl : bLen S [scr] = some (.int n)) (em : (if n < 3 then n else 3) = m) (ek : (if m > 1 then m else 1) = k) (rg : rangeD [.int k] = some zs) (hz : zs.length ≤ 16777216)
    (l1 : ∀ x1, lcL lt1_law bYes lf1_law [some (.val scr), x1, none, none] zs S = .ok (d0 :: ds) S1) (hd : ds.length ≤ 1000)
    (l2 : lcL lt2_law bYes lf2_law [some (.val scr), some (.val (.lst (d0 :: ds))), none, none] (d0 :: ds) S1 = .ok bs S2) (bb : List Bool) (hb : blsOf bs = some bb) (ha : bb.all id = true) (h : F__law_long_right [d0] S2 = .ok (.bl true) S3) :
    F_law [scr] S = .ok (.bl true) S3 := by
  have g : ds.length + 1 ≤ 16777216 := by omega
  simp [F_law, fnOf, g_law, hl, em, ek, rg, hz, l1, g, l2, hb, ha, h, -List.all_eq_true]
theorem law_true (ns : List Int) (hn : ns.length ≤ 63) : ∃ S, F_law [.kst (ns.map .int)] [] = .ok (.bl true) S := by
  have hnl : NL [] := rfl
  obtain ⟨j, hj1, hj2⟩ : ∃ j : Nat, (if (if ((ns.length : Nat) : Int) < 3 then ((ns.length : Nat) : Int) else 3) > 1 then (if ((ns.length : Nat) : Int) < 3 then ((ns.length : Nat) : Int) else 3) else 1) = (j : Int) ∧ 1 ≤ j ∧ j ≤ 3 := by
    by_cases h1 : ns.length < 3
    · by_cases h2 : 1 < ns.length
      · exact ⟨ns.length, by rw [if_pos (by omega : ((ns.length : Nat) : Int) < 3), if_pos (by omega)], by omega, by omega⟩
      · exact ⟨1, by rw [if_pos (by omega : ((ns.length : Nat) : Int) < 3), if_neg (by omega)]; rfl, by omega, by omega⟩
    · exact ⟨3, by rw [if_neg (by omega : ¬ ((ns.length : Nat) : Int) < 3)]; rfl, by omega, by omega⟩
  have key : ∃ (ds : List D) (S1 : Store), (∀ x1, lcL lt1_law bYes lf1_law [some (.val (.kst (ns.map .int))), x1, none, none] ((List.range j).map iD) [] = .ok ds S1) ∧ Evo [] S1 ∧ ds.length = j ∧ ∀ d ∈ ds, ∃ p, d = .loc p ∧ Pot S1 p := by
    obtain ⟨ds, S1, e1, v1, l1, h1⟩ := pots_lc ns (List.range j) [] (fun k hk => by have := List.mem_range.mp hk; omega) hnl
    exact ⟨ds, S1, e1, v1, by rw [l1, List.length_range], h1⟩
  obtain ⟨ds, S1, e1, v1, l1, h1⟩ := key
  obtain ⟨d0, ds, rfl⟩ : ∃ d0 ds', ds = d0 :: ds' := by cases ds with | nil => simp at l1; omega | cons a b => exact ⟨a, b, rfl⟩
  obtain ⟨S2, e2, v2⟩ := rights_lc (some (.val (.kst (ns.map .int)))) (some (.val (.lst (d0 :: ds)))) (d0 :: ds) S1 (v1.2 hnl) h1
  obtain ⟨p, rfl, hp⟩ := h1 d0 (by simp)
  obtain ⟨S3, e3, v3⟩ := law_long_right (v2.1 p hp)
  refine ⟨S3, law_core (n := (ns.length : Nat)) (by rw [o_lenK, List.length_map]) rfl hj1 (rgN (n := j) (by omega)) (by rw [iD_len]; omega) e1 (by simp at l1; omega) e2 ((.loc p :: ds).map fun _ => true) (blsOf_map _ _) (by simp) e3⟩
end K75
set_option Elab.async false
set_option linter.all false
set_option maxRecDepth 100000
set_option maxHeartbeats 0
namespace K75
open PySem PySem.Spec PyProof.Rows L2 DL
abbrev R : PySem.W.OpenRow := PySem.W.OpenLaw.row PySem.Challenge.rw_settledhands_k75_whole_programs_of_hands
def loose : List PySem.Str := (["__name__", "HandError", "InvalidPlant", "InvalidHand", "BadText", "InvalidText", "MOST_LETTERS", "is_integer", "is_count", "PLANT_WORD", "MOST_PLANT_PLACES", "MOST_PLACE_MOVES", "MOST_PLANT_MOVES", "is_move_of", "are_place_moves", "are_owners_of", "is_plant_of", "is_any_plant", "want_plant", "moves_of", "MOST_MEMORIES", "is_taken", "are_taken", "are_next", "is_machine_of", "is_hand_of", "want_hand", "FIGURES", "ANY", "lines_of"] : List PySem.Str) ++ (["number_in", "memories_in", "take_in", "step_in", "line_in", "put_first", "tables_of", "hand_in", "hand_text", "hand_of_text", "_law_pot", "_law_draw", "_law_pick", "_law_moves", "_law_plant", "_law_hand", "_law_line", "_law_text", "_law_rows", "_law_first", "_law_told", "_law_drawn_rows", "_law_heard", "_law_odd_lines", "_law_wrong_right", "_law_right", "_law_long_right"] : List PySem.Str)
abbrev hk : PySem.W.Hook := hookG 4 fa fn ex
def ob (s : PySem.W.SharedT) : He.AlD × Bool := obG 4 fa fn ex (HandSHeadRun.getT s)
theorem ob_eq (s : PySem.W.SharedT) : ob s = hk.obs s.abs := obG_eq (HandSHeadRun.getT_eq s)
theorem run (w : World) : HandSHeadRun.RunEq R (PySem.W.view R.prog [62]) hk ob 6000 loose w := by
  intro os
  kernel_rfl
end K75
open PySem PySem.W PySem.Calls PyProof.Rows
theorem PySem.Challenge.cw_settledhands_k75_whole_programs_of_hands_holds : PySem.Challenge.rw_settledhands_k75_whole_programs_of_hands.Holds := by
  w_on; o_law
  refine HandSHeadRun.head_any (r := OpenLaw.row PySem.Challenge.rw_settledhands_k75_whole_programs_of_hands) (q := view (OpenLaw.row PySem.Challenge.rw_settledhands_k75_whole_programs_of_hands).prog [62]) (H := K75.hk) (ob := K75.ob) (M := 6000) (loose := K75.loose) (d := HandSHeadRun.topDef (OpenLaw.row PySem.Challenge.rw_settledhands_k75_whole_programs_of_hands).prog 62) (kwd := []) K75.ob_eq
    (by kernel_rfl) (fun s => by kernel_rfl) K75.run (by kernel_rfl) (by kernel_rfl) (by kernel_rfl) (by rfl) (by first | assumption | decide +kernel) (by decide +kernel) ⟨rfl, rfl, rfl, rfl, rfl, by decide +kernel⟩ ?hw ?hc
  case hw => w_witness2
  case hc => exact DL.walk_G (l := PySem.Challenge.rw_settledhands_k75_whole_programs_of_hands) (n := 63) (k := 12) (F := K75.F_law) (dd := K75.d_law) rfl (by decide) (by kernel_rfl) ⟨rfl, by decide, by decide⟩ (by kernel_rfl) K75.bp_law (fun w K mg base c => K75.ok_law c) K75.law_true
