import PyProof.Rows.All
import Wide.All
import OpenK.AllK
import Wide.FinOn
import HandS.ForMost
import HandS.ForExc
import HandS.ExcCtx
import HandS.Lambda
import HandS.TupAny
import HandS.Deep
import HandS.IsInst
import HandS.Defaults
import HandS.CallSlots
import HandS.Flow
import HandS.WordsDict
import HandS.RaiseMore
import PyProof.ListStr
import HandS.MakeKwOnly
import HandS.HeadEnd
import HandS.List
import HandS.Text
import HandS.Iter
import HandS.Comp
import HandS.Style
import PyProof.Rows.StrRev
import HandS.Dict
import HandS.Small
import HandS.More
import HandS.HeadHook3
import HandS.OwnEq
import PyProof.InstNe
import HandS.FStr
import OpenK.KOps
import HandS.Hot
import HandS.HotCalls
import PyProof.Rows.TupIter
import HandS.ExcIs
import HandS.ExcOwn
import KE.KFmtOwn
import HandS.TupLe
import HandS.HeadWalk
import KE.KNestM
import PyProof.Rows.StrJoinStr
import PyProof.MakeMany
import PyProof.CollectIter
import HandS.HeadHook1
import HandS.HeadHook2
import HandS.HeadHook4
import HandS.Head2
import KE.KStateDown
import PySem.Challenge.RW_wirenames_k02_next_names
set_option Elab.async false
set_option linter.all false
set_option maxRecDepth 100000
set_option maxHeartbeats 0
/-! Values by content, a numbered heap, and their relation to the hand layer's. -/
namespace Z
open PySem L2

/-- a value: tuples and written lists by content, things that change by number -/
inductive W where
  | non | bl (b : Bool) | int (i : Int) | str (x : Str) | ty (n : String) | gl (a : Addr)
  | tup (ws : List W) | cl (ws : List W) | ref (n : Nat)
  /-- a lambda at f, its code object at c, of the name q; the maker's slots σ, of which ws tells those that sh says -/
  | clo (f c : Addr) (q : Str) (σ : List (Option V)) (sh : List Bool) (ws : List W)

/-- the known slots of σ, one by one -/
def fitS : List Bool → List V → List (Option V) → Prop
  | [], _, σ => σ = []
  | false :: s, vs, σ => ∃ o r, σ = o :: r ∧ fitS s vs r
  | true :: s, v :: vs, σ => ∃ r, σ = some v :: r ∧ fitS s vs r
  | true :: _, [], _ => False
/-- a list that is never written to -/
def CL (K : PySem.W.Frag) (H : Hp) (a : Addr) (xs : List V) : Prop :=
  (∃ o, H a = some (.frz o (.lst xs))) ∨
    ∃ (o : Obj) (its : Array Value) (n : Nat), K.lookup a = some o ∧ o.cls = .type "list" ∧ o.dict = none ∧ o.data = .seq its n ∧ its.size ≤ sizeLine ∧ Vals xs its.toList
theorem CL.sq {K : PySem.W.Frag} {H : Hp} {a : Addr} {xs : List V} (h : CL K H a xs) : SqL K H a xs :=
  h.elim (fun x => .inl (.inr x)) .inr

mutual
/-- an abstract value beside a value of the hand layer -/
def RW (K : PySem.W.Frag) (ι : List Addr) (H : Hp) : W → V → Prop
  | .non, v => v = .non
  | .bl b, v => v = .bl b
  | .int i, v => v = .int i
  | .str x, v => v = .str x
  | .ty n, v => v = .ty n
  | .gl a, v => v = .ref a
  | .tup ws, v => ∃ a vs, v = .ref a ∧ SqT K H a vs ∧ RWs K ι H ws vs
  | .cl ws, v => ∃ a vs, v = .ref a ∧ CL K H a vs ∧ RWs K ι H ws vs
  | .ref n, v => ∃ a, ι[n]? = some a ∧ v = .ref a
  | .clo f c q σ sh ws, v => v = .ref f ∧ H c = some (LamX.CodeO c q) ∧ ∃ vs, RWs K ι H ws vs ∧ fitS sh vs σ
def RWs (K : PySem.W.Frag) (ι : List Addr) (H : Hp) : List W → List V → Prop
  | [], vs => vs = []
  | w :: ws, vs => ∃ v vr, vs = v :: vr ∧ RW K ι H w v ∧ RWs K ι H ws vr
end

/-- later: more numbers, the tuples and the written lists as they were -/
structure Le (K : PySem.W.Frag) (ι : List Addr) (H : Hp) (ι' : List Addr) (H' : Hp) : Prop where
  pre : ∃ r, ι' = ι ++ r
  tup : ∀ a xs, SqT K H a xs → SqT K H' a xs
  cl : ∀ a xs, CL K H a xs → CL K H' a xs
  co : ∀ c q, H c = some (LamX.CodeO c q) → H' c = some (LamX.CodeO c q)

section
variable {K : PySem.W.Frag} {ι ι' ι'' : List Addr} {H H' H'' : Hp}
theorem Le.refl : Le K ι H ι H := ⟨⟨[], by simp⟩, fun _ _ h => h, fun _ _ h => h, fun _ _ h => h⟩
theorem Le.trans (a : Le K ι H ι' H') (b : Le K ι' H' ι'' H'') : Le K ι H ι'' H'' := by
  obtain ⟨⟨r, e⟩, t, c, d⟩ := a
  obtain ⟨⟨r', e'⟩, t', c', d'⟩ := b
  exact ⟨⟨r ++ r', by rw [e', e, List.append_assoc]⟩, fun x xs h => t' x xs (t x xs h), fun x xs h => c' x xs (c x xs h), fun x q h => d' x q (d x q h)⟩
theorem Le.at (a : Le K ι H ι' H') {n : Nat} {x : Addr} (h : ι[n]? = some x) : ι'[n]? = some x := by
  obtain ⟨r, e⟩ := a.pre
  rw [e, List.getElem?_append_left (List.getElem?_eq_some_iff.mp h).1]
  exact h
mutual
theorem RW.mono (l : Le K ι H ι' H') : ∀ (w : W) (v : V), RW K ι H w v → RW K ι' H' w v
  | .non, v, h => h
  | .bl b, v, h => h
  | .int i, v, h => h
  | .str x, v, h => h
  | .ty n, v, h => h
  | .gl a, v, h => h
  | .tup ws, v, h => by
    obtain ⟨a, vs, e, t, r⟩ := (show ∃ a vs, v = .ref a ∧ SqT K H a vs ∧ RWs K ι H ws vs from h)
    exact (show ∃ a vs, v = .ref a ∧ SqT K H' a vs ∧ RWs K ι' H' ws vs from ⟨a, vs, e, l.tup a vs t, RWs.mono l ws vs r⟩)
  | .cl ws, v, h => by
    obtain ⟨a, vs, e, t, r⟩ := (show ∃ a vs, v = .ref a ∧ CL K H a vs ∧ RWs K ι H ws vs from h)
    exact (show ∃ a vs, v = .ref a ∧ CL K H' a vs ∧ RWs K ι' H' ws vs from ⟨a, vs, e, l.cl a vs t, RWs.mono l ws vs r⟩)
  | .ref n, v, h => by
    obtain ⟨a, e, q⟩ := (show ∃ a, ι[n]? = some a ∧ v = .ref a from h)
    exact (show ∃ a, ι'[n]? = some a ∧ v = .ref a from ⟨a, l.at e, q⟩)
  | .clo f c q σ sh ws, v, h => by
    obtain ⟨e, hc, vs, r, m⟩ := (show v = .ref f ∧ H c = some (LamX.CodeO c q) ∧ ∃ vs, RWs K ι H ws vs ∧ fitS sh vs σ from h)
    exact (show v = .ref f ∧ H' c = some (LamX.CodeO c q) ∧ ∃ vs, RWs K ι' H' ws vs ∧ fitS sh vs σ from ⟨e, l.co c q hc, vs, RWs.mono l ws vs r, m⟩)
theorem RWs.mono (l : Le K ι H ι' H') : ∀ (ws : List W) (vs : List V), RWs K ι H ws vs → RWs K ι' H' ws vs
  | [], vs, h => h
  | w :: ws, vs, h => by
    obtain ⟨v, vr, e, r, t⟩ := (show ∃ v vr, vs = v :: vr ∧ RW K ι H w v ∧ RWs K ι H ws vr from h)
    exact (show ∃ v vr, vs = v :: vr ∧ RW K ι' H' w v ∧ RWs K ι' H' ws vr from ⟨v, vr, e, RW.mono l w v r, RWs.mono l ws vr t⟩)
end
end
end Z
namespace Z
open PySem L2

/-- what stands at a number -/
inductive AO where
  | lst (ws : List W) | dk (kvs : List (Key × W)) | ins (C : Addr) (fs : List (Str × W))
  /-- a def's table of code objects, of the name q -/
  | tab (P : Addr) (q : Str)

section
variable (K : PySem.W.Frag) (ι : List Addr) (H : Hp)
def RPs {κ : Type} (l : List (κ × W)) (m : List (κ × V)) : Prop := l.map (·.1) = m.map (·.1) ∧ RWs K ι H (l.map (·.2)) (m.map (·.2))
def OR (a : Addr) : AO → Prop
  | .lst ws => ∃ vs, H a = some (.lst vs) ∧ RWs K ι H ws vs
  | .dk kvs => ∃ vs, H a = some (.dK vs) ∧ RPs K ι H kvs vs
  | .ins C fs => ∃ dx vs, H a = some (.ins C dx vs) ∧ RPs K ι H fs vs
  | .tab P q => a = P ∧ LamX.TabS H P q
abbrev Hv := List AO
structure Sr (AH : Hv) : Prop where
  len : ι.length = AH.length
  nd : ι.Nodup
  ob : ∀ (n : Nat) (a : Addr) (o : AO), ι[n]? = some a → AH[n]? = some o → OR K ι H a o
end

section
variable {K : PySem.W.Frag} {ι ι' : List Addr} {H H' : Hp} {AH AH' : Hv} {a p : Addr} {n : Nat} {o o' : AO} {u : HO}
theorem RPs.mono {κ : Type} {l : List (κ × W)} {m : List (κ × V)} (e : Le K ι H ι' H') (h : RPs K ι H l m) : RPs K ι' H' l m := ⟨h.1, RWs.mono e _ _ h.2⟩
/-- what is written to -/
def Mu : Option HO → Prop
  | some (.lst _) => True
  | some (.dK _) => True
  | some (.ins _ _ _) => True
  | some (.tbl _) => True
  | _ => False
theorem OR.mu (h : OR K ι H a o) : Mu (H a) := by
  cases o with
  | lst ws => obtain ⟨vs, e, _⟩ := h; rw [e]; trivial
  | dk ws => obtain ⟨vs, e, _⟩ := h; rw [e]; trivial
  | ins C ws => obtain ⟨dx, vs, e, _⟩ := h; rw [e]; trivial
  | tab P q => obtain ⟨rfl, ps, e, _⟩ := h; rw [e]; trivial
theorem OR.mono (l : Le K ι H ι' H') (e : H' a = H a) (h : OR K ι H a o) : OR K ι' H' a o := by
  cases o with
  | lst ws => obtain ⟨vs, e1, r⟩ := h; exact ⟨vs, e.trans e1, RWs.mono l _ _ r⟩
  | dk ws => obtain ⟨vs, e1, r⟩ := h; exact ⟨vs, e.trans e1, r.mono l⟩
  | ins C ws => obtain ⟨dx, vs, e1, r⟩ := h; exact ⟨dx, vs, e.trans e1, r.mono l⟩
  | tab P q =>
    obtain ⟨rfl, ps, e1, t, cs⟩ := h
    exact ⟨rfl, ps, e.trans e1, t, fun pos cv hc => let ⟨c, e2, e3⟩ := cs pos cv hc; ⟨c, e2, l.co c q e3⟩⟩
/-- a store to what is no tuple and no frozen thing -/
theorem Le.upd (h : ∀ xs, H a ≠ some (.tup xs)) (h2 : ∀ o x, H a ≠ some (.frz o x)) (h3 : ∀ c q, H a ≠ some (LamX.CodeO c q)) : Le K ι H ι (upd H a u) := by
  refine ⟨⟨[], by simp⟩, fun b xs q => ?_, fun b xs q => ?_, fun b q e => by rw [upd_ne (show b ≠ a from fun z => h3 b q (by rw [← z]; exact e))]; exact e⟩
  · rcases q with (q | ⟨o, q⟩) | q
    · refine .inl (.inl ?_)
      rw [upd_ne (show b ≠ a from fun z => h xs (by rw [← z]; exact q))]; exact q
    · refine .inl (.inr ⟨o, ?_⟩)
      rw [upd_ne (show b ≠ a from fun z => h2 _ _ (by rw [← z]; exact q))]; exact q
    · exact .inr q
  · rcases q with ⟨o, q⟩ | q
    · refine .inl ⟨o, ?_⟩
      rw [upd_ne (show b ≠ a from fun z => h2 _ _ (by rw [← z]; exact q))]; exact q
    · exact .inr q
theorem Le.mu (m : Mu (H a)) : Le K ι H ι (L2.upd H a u) :=
  Le.upd (fun xs e => by rw [e] at m; exact m) (fun o x e => by rw [e] at m; exact m) (fun c q e => by rw [e] at m; exact m)
theorem Le.free (m : H a = none) : Le K ι H ι (L2.upd H a u) :=
  Le.upd (fun xs e => by rw [e] at m; cases m) (fun o x e => by rw [e] at m; cases m) (fun c q e => by rw [e] at m; cases m)
theorem Le.more (m : H a = none) : Le K ι H (ι ++ [p]) (L2.upd H a u) :=
  ⟨⟨[p], rfl⟩, (Le.free (K := K) (ι := ι) m).tup, (Le.free (K := K) (ι := ι) m).cl, (Le.free (K := K) (ι := ι) m).co⟩
theorem Sr.mut (s : Sr K ι H AH) (hn : ι[n]? = some a) : Mu (H a) := by
  have l : n < AH.length := by rw [← s.len]; exact (List.getElem?_eq_some_iff.mp hn).1
  exact (s.ob n a AH[n] hn (by simp [l])).mu
theorem Sr.fresh (s : Sr K ι H AH) (hp : H p = none) : p ∉ ι := fun m => by
  obtain ⟨i, hi⟩ := List.mem_iff_getElem?.mp m
  have := s.mut hi
  rw [hp] at this; exact this
/-- the same things, where only what is no one's changed -/
theorem Sr.keep (s : Sr K ι H AH) (l : Le K ι H ι H') (k : ∀ a ∈ ι, H' a = H a) : Sr K ι H' AH :=
  ⟨s.len, s.nd, fun n a o h1 h2 => (s.ob n a o h1 h2).mono l (k a (List.mem_of_getElem? h1))⟩
theorem Sr.untr (s : Sr K ι H AH) (hp : H p = none) : Sr K ι (upd H p u) AH :=
  s.keep (Le.free hp) fun a ha => upd_ne fun e => s.fresh hp (e ▸ ha)
/-- a new thing -/
theorem Sr.alloc (s : Sr K ι H AH) (hp : H p = none) (ho : OR K (ι ++ [p]) (upd H p u) p o) : Sr K (ι ++ [p]) (upd H p u) (AH ++ [o]) := by
  have np := s.fresh hp
  refine ⟨by simp [s.len], List.nodup_append.mpr ⟨s.nd, by simp, fun x hx y hy e => ?_⟩, fun n a q h1 h2 => ?_⟩
  · have e2 : y = p := by simpa using hy
    subst e2; subst e; exact np hx
  · by_cases hl : n < ι.length
    · rw [List.getElem?_append_left hl] at h1
      rw [List.getElem?_append_left (by rw [← s.len]; exact hl)] at h2
      refine (s.ob n a q h1 h2).mono (Le.more hp) (upd_ne fun e => np (e ▸ List.mem_of_getElem? h1))
    · have hn : n < (ι ++ [p]).length := (List.getElem?_eq_some_iff.mp h1).1
      have e : n = ι.length := by simp at hn; omega
      subst e
      have e1 : a = p := by simpa using h1.symm
      have e2 : q = o := by rw [s.len] at h2; simpa using h2.symm
      subst e1; subst e2; exact ho
/-- a thing changed -/
theorem Sr.set (s : Sr K ι H AH) (hn : ι[n]? = some a) (ho : OR K ι (upd H a u) a o) : Sr K ι (upd H a u) (AH.set n o) := by
  have m := s.mut hn
  refine ⟨by simp [s.len], s.nd, fun k b q h1 h2 => ?_⟩
  have hl : n < AH.length := by rw [← s.len]; exact (List.getElem?_eq_some_iff.mp hn).1
  by_cases e : k = n
  · subst e
    rw [hn] at h1; cases h1
    rw [List.getElem?_set_self hl] at h2; cases h2
    exact ho
  · rw [List.getElem?_set_ne (Ne.symm e)] at h2
    have ne : b ≠ a := fun z => by
      subst z
      obtain ⟨l1, e1⟩ := List.getElem?_eq_some_iff.mp h1
      obtain ⟨l2, e2⟩ := List.getElem?_eq_some_iff.mp hn
      exact e ((List.getElem_inj s.nd).mp (e1.trans e2.symm))
    exact (s.ob k b q h1 h2).mono (Le.mu m) (upd_ne ne)
theorem Sr.at (s : Sr K ι H AH) (hn : ι[n]? = some a) (h : AH[n]? = some o) : OR K ι H a o := s.ob n a o hn h
theorem Sr.addr (s : Sr K ι H AH) (h : AH[n]? = some o) : ∃ a, ι[n]? = some a ∧ OR K ι H a o := by
  have l : n < ι.length := by rw [s.len]; exact (List.getElem?_eq_some_iff.mp h).1
  exact ⟨ι[n], by simp [l], s.ob n _ o (by simp [l]) h⟩
end

/-! ### answers -/
/-- an exception: its class, its own fields where it has some -/
structure AX where
  cls : Value
  fs : Option (List (Str × W))
abbrev Rs (α : Type) := Option (Except AX α × Hv)
def M (α : Type) := Hv → Rs α
def ret {α : Type} (a : α) : M α := fun h => some (.ok a, h)
def bnd {α β : Type} (m : M α) (k : α → M β) : M β := fun h => match m h with
  | none => none
  | some (.error x, h') => some (.error x, h')
  | some (.ok a, h') => k a h'
def stuck {α : Type} : M α := fun _ => none
instance : Monad M where
  pure := ret
  bind := bnd
theorem bnd_ok {α β : Type} {m : M α} {k : α → M β} {h h' : Hv} {a : α} (e : m h = some (.ok a, h')) : bnd m k h = k a h' := by unfold bnd; rw [e]
theorem bnd_err {α β : Type} {m : M α} {k : α → M β} {h h' : Hv} {x : AX} (e : m h = some (.error x, h')) : bnd m k h = some (.error x, h') := by unfold bnd; rw [e]

section
variable (K : PySem.W.Frag)
def XR (ι : List Addr) (H : Hp) (x : AX) (d : Option Addr) : Prop :=
  match x.fs, d with
  | none, d => d = none
  | some fs, some a => ∃ vs, H a = some (.xd vs) ∧ RPs K ι H fs vs
  | some _, none => False
/-- what an answer promises -/
def Out {α β : Type} (R : List Addr → Hp → α → β → Prop) (X : AX → Option Addr → Hp → Prop) (ι : List Addr) (H : Hp) (r : Rs α) (Q : β → Hp → Prop) : Prop :=
  match r with
  | none => False
  | some (.ok w, AH') => ∀ ι' v H', Le K ι H ι' H' → Sr K ι' H' AH' → R ι' H' w v → Q v H'
  | some (.error x, AH') => ∀ ι' d H', Le K ι H ι' H' → Sr K ι' H' AH' → XR K ι' H' x d → X x d H'
end
section
variable {K : PySem.W.Frag} {α β γ δ : Type} {R : List Addr → Hp → α → β → Prop} {R' : List Addr → Hp → γ → δ → Prop} {X : AX → Option Addr → Hp → Prop} {ι ι' : List Addr} {H H' : Hp} {AH : Hv}
theorem Out.imp {r : Rs α} {Q Q' : β → Hp → Prop} (h : Out K R X ι H r Q) (f : ∀ v H', Q v H' → Q' v H') : Out K R X ι H r Q' := by
  match r, h with
  | some (.ok w, AH'), h => exact fun ι' v H' l s r => f _ _ (h ι' v H' l s r)
  | some (.error x, AH'), h => exact h
theorem Out.le {r : Rs α} {Q : β → Hp → Prop} (l : Le K ι H ι' H') (h : Out K R X ι H r Q) : Out K R X ι' H' r Q := by
  match r, h with
  | some (.ok w, AH'), h => exact fun ι2 v H2 l2 s r => h ι2 v H2 (l.trans l2) s r
  | some (.error x, AH'), h => exact fun ι2 d H2 l2 s r => h ι2 d H2 (l.trans l2) s r
/-- one after the other -/
theorem Out.bnd {m : M α} {k : α → M γ} {Q : δ → Hp → Prop} (h : Out K R' X ι H (Z.bnd m k AH) Q) :
    Out K R X ι H (m AH) (fun v H1 => ∃ ι1 w AH1, Le K ι H ι1 H1 ∧ Sr K ι1 H1 AH1 ∧ R ι1 H1 w v ∧ Out K R' X ι1 H1 (k w AH1) Q) := by
  unfold Z.bnd at h
  match hm : m AH, h with
  | none, h => exact h
  | some (.error x, AH'), h => exact h
  | some (.ok w, AH'), h => exact fun ι1 v H1 l s r => ⟨ι1, w, AH', l, s, r, h.le l⟩
theorem Out.ret {w : α} {v : β} {Q : β → Hp → Prop} (s : Sr K ι H AH) (r : R ι H w v) (h : Out K R X ι H (Z.ret w AH) Q) : Q v H := h ι v H Le.refl s r
end

/-! ### names -/
abbrev Ev := List (Option W)
section
variable (K : PySem.W.Frag)
structure RE (ι : List Addr) (H : Hp) (e : Ev) (σ : L2.St) : Prop where
  len : e.length = σ.length
  get : ∀ (i : Nat) (w : W), e[i]? = some (some w) → ∃ v, σ[i]? = some (some v) ∧ RW K ι H w v
end
theorem RE.mono {K : PySem.W.Frag} {ι ι' : List Addr} {H H' : Hp} {e : Ev} {σ : L2.St} (l : Le K ι H ι' H') (h : RE K ι H e σ) : RE K ι' H' e σ :=
  ⟨h.len, fun i w q => let ⟨v, a, b⟩ := h.get i w q; ⟨v, a, RW.mono l _ _ b⟩⟩
theorem RE.set {K : PySem.W.Frag} {ι : List Addr} {H : Hp} {e : Ev} {σ : L2.St} {i : Nat} {w : W} {v : V} (h : RE K ι H e σ) (r : RW K ι H w v) : RE K ι H (e.set i (some w)) (σ.set i (some v)) := by
  refine ⟨by simp [h.len], fun j u q => ?_⟩
  by_cases hj : i = j
  · subst hj
    have hl : i < (e.set i (some w)).length := (List.getElem?_eq_some_iff.mp q).1
    have hl2 : i < e.length := by simpa using hl
    rw [List.getElem?_set_self hl2] at q
    cases q
    exact ⟨v, by rw [List.getElem?_set_self (by rw [← h.len]; exact hl2)], r⟩
  · rw [List.getElem?_set_ne hj] at q ⊢
    exact h.get j u q

/-! ### the readings -/
abbrev ME (α : Type) := Ev → M α
/-- how an exception's wish at the slots is read -/
abbrev wx (Wx : WX) (σ : L2.St) : AX → Option Addr → Hp → Prop := fun x d H => Wx x.cls d σ H
def tG {α β : Type} (K : PySem.W.Frag) (R : List Addr → Hp → α → β → Prop) (Wx : WX) (m : ME α) : L2.St → Hp → (β → Hp → Prop) → Prop := fun σ H Q =>
  ∃ ι e AH, RE K ι H e σ ∧ Sr K ι H AH ∧ Out K R (wx Wx σ) ι H (m e AH) Q
abbrev tE (K : PySem.W.Frag) (Wx : WX) (m : ME W) : TE := tG K (RW K) Wx m
abbrev tA (K : PySem.W.Frag) (Wx : WX) (m : ME (List W)) : TA := tG K (RWs K) Wx m
/-- Bools are themselves -/
abbrev RB : List Addr → Hp → Bool → Bool → Prop := fun _ _ a b => a = b
abbrev tT (K : PySem.W.Frag) (Wx : WX) (m : ME Bool) : TT := tG K RB Wx m
/-- bind over names -/
def bE {α β : Type} (m : ME α) (k : α → ME β) : ME β := fun e => bnd (m e) fun a => k a e
theorem tG_bnd {K : PySem.W.Frag} {α β γ δ : Type} {R : List Addr → Hp → α → β → Prop} {R' : List Addr → Hp → γ → δ → Prop} {Wx : WX} {m : ME α} {k : α → ME γ} {σ : L2.St} {H : Hp} {Q : δ → Hp → Prop}
    (h : tG K R' Wx (bE m k) σ H Q) {Q' : β → Hp → Prop}
    (f : ∀ ι1 w AH1 v H1 e, RE K ι1 H1 e σ → Sr K ι1 H1 AH1 → R ι1 H1 w v → Out K R' (wx Wx σ) ι1 H1 (k w e AH1) Q → Q' v H1) : tG K R Wx m σ H Q' := by
  obtain ⟨ι, e, AH, re, s, h⟩ := h
  refine ⟨ι, e, AH, re, s, Out.imp (Out.bnd (R := R) h) fun v H1 ⟨ι1, w, AH1, l, s1, r, q⟩ => f ι1 w AH1 v H1 e (re.mono l) s1 r q⟩

structure PEm (X : Cx) (Wx : WX) (e : Expr) (m : ME W) : Prop where
  pe : PE X e (tE X.K Wx m)
structure PTm (X : Cx) (Wx : WX) (e : Expr) (m : ME Bool) : Prop where
  pt : PT X e (tT X.K Wx m)
structure PWm (X : Cx) (Wx : WX) (e : Expr) (m : ME Bool) : Prop where
  pw : PW X e (tT X.K Wx m)
structure PAm (X : Cx) (Wx : WX) (es : List Expr) (m : ME (List W)) : Prop where
  pa : PA X es (tA X.K Wx m)
theorem PE_imp {X : Cx} {e : Expr} {t t' : TE} (h : PE X e t) (f : ∀ σ H Q, t' σ H Q → t σ H Q) : PE X e t' := ⟨fun pins s σ H Q I q => h.run pins s σ H Q I (f σ H Q q)⟩
theorem PT_imp {X : Cx} {e : Expr} {t t' : TT} (h : PT X e t) (f : ∀ σ H Q, t' σ H Q → t σ H Q) : PT X e t' := ⟨fun pins s σ H Q I q => h.run pins s σ H Q I (f σ H Q q)⟩
theorem PW_imp {X : Cx} {e : Expr} {t t' : TT} (h : PW X e t) (f : ∀ σ H Q, t' σ H Q → t σ H Q) : PW X e t' := ⟨fun wh pins s σ H Q I q => h.run wh pins s σ H Q I (f σ H Q q)⟩
theorem PA_imp {X : Cx} {e : List Expr} {t t' : TA} (h : PA X e t) (f : ∀ σ H Q, t' σ H Q → t σ H Q) : PA X e t' := ⟨fun pos pins s σ H Q I q => h.run pos pins s σ H Q I (f σ H Q q)⟩
theorem PS_imp {X : Cx} {st : Stmt} {t t' : TS} (h : PS X st t) (f : ∀ D σ H, t' D σ H → t D σ H) : PS X st t' := ⟨fun pins s σ H D I q => h.run pins s σ H D I (f D σ H q)⟩
theorem PSs_imp {X : Cx} {st : List Stmt} {t t' : TS} (h : PSs X st t) (f : ∀ D σ H, t' D σ H → t D σ H) : PSs X st t' := ⟨fun pins s σ H D I q => h.run pins s σ H D I (f D σ H q)⟩
theorem PEm.imp {X : Cx} {Wx : WX} {e : Expr} {t : TE} {m : ME W} (h : PE X e t) (f : ∀ σ H Q, tE X.K Wx m σ H Q → t σ H Q) : PEm X Wx e m := ⟨PE_imp h f⟩

/-! ### statements -/
inductive Fl where
  | nx | rt (w : W) | bk | ct
abbrev MS := Ev → Hv → Option (Except AX Fl × Ev × Hv)
section
variable (K : PySem.W.Frag) (Wx : WX)
def OutS (ι : List Addr) (H : Hp) (r : Option (Except AX Fl × Ev × Hv)) (D : Ends) : Prop :=
  match r with
  | none => False
  | some (.ok .nx, e', AH') => ∀ ι' σ' H', Le K ι H ι' H' → Sr K ι' H' AH' → RE K ι' H' e' σ' → D.nx σ' H'
  | some (.ok .bk, e', AH') => ∀ ι' σ' H', Le K ι H ι' H' → Sr K ι' H' AH' → RE K ι' H' e' σ' → D.bk σ' H'
  | some (.ok .ct, e', AH') => ∀ ι' σ' H', Le K ι H ι' H' → Sr K ι' H' AH' → RE K ι' H' e' σ' → D.ct σ' H'
  | some (.ok (.rt w), _, AH') => ∀ ι' v H', Le K ι H ι' H' → Sr K ι' H' AH' → RW K ι' H' w v → D.rt v H'
  | some (.error x, e', AH') => ∀ ι' σ' d H', Le K ι H ι' H' → Sr K ι' H' AH' → RE K ι' H' e' σ' → XR K ι' H' x d → Wx x.cls d σ' H'
def tS (m : MS) : TS := fun D σ H => ∃ ι e AH, RE K ι H e σ ∧ Sr K ι H AH ∧ OutS K Wx ι H (m e AH) D
end
structure PSm (X : Cx) (Wx : WX) (st : Stmt) (m : MS) : Prop where
  ps : PS X st (tS X.K Wx m)
structure PSsm (X : Cx) (Wx : WX) (st : List Stmt) (m : MS) : Prop where
  ps : PSs X st (tS X.K Wx m)
section
variable {K : PySem.W.Frag} {Wx : WX} {ι ι' : List Addr} {H H' : Hp} {AH : Hv} {e : Ev} {σ : L2.St} {D : Ends}
theorem OutS.le {r : Option (Except AX Fl × Ev × Hv)} (l : Le K ι H ι' H') (h : OutS K Wx ι H r D) : OutS K Wx ι' H' r D := by
  match r, h with
  | some (.ok .nx, _, _), h => exact fun ι2 v H2 l2 s r => h ι2 v H2 (l.trans l2) s r
  | some (.ok .bk, _, _), h => exact fun ι2 v H2 l2 s r => h ι2 v H2 (l.trans l2) s r
  | some (.ok .ct, _, _), h => exact fun ι2 v H2 l2 s r => h ι2 v H2 (l.trans l2) s r
  | some (.ok (.rt w), _, _), h => exact fun ι2 v H2 l2 s r => h ι2 v H2 (l.trans l2) s r
  | some (.error x, _, _), h => exact fun ι2 v d H2 l2 s r q => h ι2 v d H2 (l.trans l2) s r q
/-- an expression, then a statement's rest -/
def eS {α : Type} (m : ME α) (k : α → MS) : MS := fun e h => match m e h with
  | none => none
  | some (.error x, h') => some (.error x, e, h')
  | some (.ok a, h') => k a e h'
theorem tS_eS {α β : Type} {R : List Addr → Hp → α → β → Prop} {m : ME α} {k : α → MS} (h : tS K Wx (eS m k) D σ H) {Q' : β → Hp → Prop}
    (f : ∀ ι1 w AH1 v H1 e, RE K ι1 H1 e σ → Sr K ι1 H1 AH1 → R ι1 H1 w v → OutS K Wx ι1 H1 (k w e AH1) D → Q' v H1) : tG K R Wx m σ H Q' := by
  obtain ⟨ι, e, AH, re, s, h⟩ := h
  refine ⟨ι, e, AH, re, s, ?_⟩
  unfold eS at h
  match hm : m e AH, h with
  | none, h => exact h
  | some (.error x, AH'), h => exact fun ι1 d H1 l s1 r => h ι1 σ d H1 l s1 (re.mono l) r
  | some (.ok w, AH'), h => exact fun ι1 v H1 l s1 r => f ι1 w AH' v H1 e (re.mono l) s1 r (h.le l)
def sNx : MS := fun e h => some (.ok .nx, e, h)
def sBk : MS := fun e h => some (.ok .bk, e, h)
def sCt : MS := fun e h => some (.ok .ct, e, h)
def sRt (w : W) : MS := fun e h => some (.ok (.rt w), e, h)
def sSeq (m k : MS) : MS := fun e h => match m e h with
  | some (.ok .nx, e', h') => k e' h'
  | r => r
theorem tS_seq {m k : MS} (h : tS K Wx (sSeq m k) D σ H) : tS K Wx m { D with nx := tS K Wx k D } σ H := by
  obtain ⟨ι, e, AH, re, s, h⟩ := h
  refine ⟨ι, e, AH, re, s, ?_⟩
  unfold sSeq at h
  match hm : m e AH, h with
  | none, h => exact h
  | some (.ok .nx, e', AH'), h => exact fun ι1 σ1 H1 l s1 r1 => ⟨ι1, e', AH', r1, s1, h.le l⟩
  | some (.ok .bk, e', AH'), h => exact h
  | some (.ok .ct, e', AH'), h => exact h
  | some (.ok (.rt w), e', AH'), h => exact h
  | some (.error x, e', AH'), h => exact h
end
end Z
namespace Z
open PySem L2

/-! ### small words -/
section
variable {K : PySem.W.Frag} {ι : List Addr} {H : Hp} {v : V} {vs : List V}
theorem rw_non (h : RW K ι H .non v) : v = .non := h
theorem rw_bl {b : Bool} (h : RW K ι H (.bl b) v) : v = .bl b := h
theorem rw_int {i : Int} (h : RW K ι H (.int i) v) : v = .int i := h
theorem rw_str {x : Str} (h : RW K ι H (.str x) v) : v = .str x := h
theorem rw_ref {n : Nat} (h : RW K ι H (.ref n) v) : ∃ a, ι[n]? = some a ∧ v = .ref a := h
theorem rw_tup {ws : List W} (h : RW K ι H (.tup ws) v) : ∃ a vs, v = .ref a ∧ SqT K H a vs ∧ RWs K ι H ws vs := h
theorem rw_cl {ws : List W} (h : RW K ι H (.cl ws) v) : ∃ a vs, v = .ref a ∧ CL K H a vs ∧ RWs K ι H ws vs := h
theorem rws_nil (h : RWs K ι H [] vs) : vs = [] := h
theorem rws_cons {w : W} {ws : List W} (h : RWs K ι H (w :: ws) vs) : ∃ v vr, vs = v :: vr ∧ RW K ι H w v ∧ RWs K ι H ws vr := h
theorem rws_one {w : W} (h : RWs K ι H [w] vs) : ∃ v, vs = [v] ∧ RW K ι H w v := by
  obtain ⟨v, vr, e, r, q⟩ := rws_cons h
  rw [rws_nil q] at e; exact ⟨v, e, r⟩
theorem rws_two {w w' : W} (h : RWs K ι H [w, w'] vs) : ∃ v v', vs = [v, v'] ∧ RW K ι H w v ∧ RW K ι H w' v' := by
  obtain ⟨v, vr, e, r, q⟩ := rws_cons h
  obtain ⟨v', e', r'⟩ := rws_one q
  rw [e'] at e; exact ⟨v, v', e, r, r'⟩
theorem RWs.mk {w : W} {ws : List W} {v : V} {vs : List V} (r : RW K ι H w v) (q : RWs K ι H ws vs) : RWs K ι H (w :: ws) (v :: vs) :=
  (show ∃ v' vr, v :: vs = v' :: vr ∧ RW K ι H w v' ∧ RWs K ι H ws vr from ⟨v, vs, rfl, r, q⟩)
theorem RWs.nl : RWs K ι H [] [] := (show ([] : List V) = [] from rfl)
theorem RWs.length : ∀ {ws : List W} {vs : List V}, RWs K ι H ws vs → ws.length = vs.length
  | [], vs, h => by rw [rws_nil h]; rfl
  | w :: ws, vs, h => by
    obtain ⟨v, vr, e, r, q⟩ := rws_cons h
    rw [e, List.length_cons, List.length_cons, RWs.length q]
theorem RWs.append : ∀ {ws ws' : List W} {vs vs' : List V}, RWs K ι H ws vs → RWs K ι H ws' vs' → RWs K ι H (ws ++ ws') (vs ++ vs')
  | [], ws', vs, vs', h, h' => by rw [rws_nil h]; exact h'
  | w :: ws, ws', vs, vs', h, h' => by
    obtain ⟨v, vr, e, r, q⟩ := rws_cons h
    rw [e]; exact RWs.mk r (RWs.append q h')
theorem RWs.get : ∀ {ws : List W} {vs : List V} {i : Nat} {w : W}, RWs K ι H ws vs → ws[i]? = some w → ∃ v, vs[i]? = some v ∧ RW K ι H w v
  | [], _, i, w, _, e => by simp at e
  | u :: ws, vs, 0, w, h, e => by
    obtain ⟨v, vr, e', r, q⟩ := rws_cons h
    have : u = w := by simpa using e
    subst this
    exact ⟨v, by rw [e']; rfl, r⟩
  | u :: ws, vs, i + 1, w, h, e => by
    obtain ⟨v, vr, e', r, q⟩ := rws_cons h
    obtain ⟨v', h1, h2⟩ := RWs.get (i := i) (w := w) q (by simpa using e)
    exact ⟨v', by rw [e']; simpa using h1, h2⟩
theorem RWs.back : ∀ {ws : List W} {vs : List V} {i : Nat} {v : V}, RWs K ι H ws vs → vs[i]? = some v → ∃ w, ws[i]? = some w ∧ RW K ι H w v
  | [], vs, i, w, h, e => by rw [rws_nil h] at e; simp at e
  | u :: ws, vs, 0, v, h, e => by
    obtain ⟨v', vr, e', r, q⟩ := rws_cons h
    rw [e'] at e
    have : v' = v := by simpa using e
    subst this
    exact ⟨u, rfl, r⟩
  | u :: ws, vs, i + 1, v, h, e => by
    obtain ⟨v', vr, e', r, q⟩ := rws_cons h
    rw [e'] at e
    obtain ⟨w', h1, h2⟩ := RWs.back (i := i) (v := v) q (by simpa using e)
    exact ⟨w', by simpa using h1, h2⟩
theorem RWs.take : ∀ (n : Nat) {ws : List W} {vs : List V}, RWs K ι H ws vs → RWs K ι H (ws.take n) (vs.take n)
  | 0, _, _, _ => by rw [List.take_zero, List.take_zero]; exact RWs.nl
  | n + 1, [], vs, h => by rw [rws_nil h, List.take_nil]; exact RWs.nl
  | n + 1, w :: ws, vs, h => by
    obtain ⟨v, vr, e, r, q⟩ := rws_cons h
    rw [e, List.take_succ_cons, List.take_succ_cons]
    exact RWs.mk r (RWs.take n q)
theorem RWs.drop : ∀ (n : Nat) {ws : List W} {vs : List V}, RWs K ι H ws vs → RWs K ι H (ws.drop n) (vs.drop n)
  | 0, _, _, h => h
  | n + 1, [], vs, h => by rw [rws_nil h, List.drop_nil]; exact RWs.nl
  | n + 1, w :: ws, vs, h => by
    obtain ⟨v, vr, e, r, q⟩ := rws_cons h
    rw [e, List.drop_succ_cons, List.drop_succ_cons]
    exact RWs.drop n q
theorem RWs.set : ∀ (n : Nat) {ws : List W} {vs : List V} {w : W} {v : V}, RWs K ι H ws vs → RW K ι H w v → RWs K ι H (ws.set n w) (vs.set n v)
  | n, [], vs, _, _, h, _ => by rw [rws_nil h]; exact RWs.nl
  | 0, w :: ws, vs, _, _, h, r' => by
    obtain ⟨v, vr, e, r, q⟩ := rws_cons h
    rw [e]; exact RWs.mk r' q
  | n + 1, w :: ws, vs, _, _, h, r' => by
    obtain ⟨v, vr, e, r, q⟩ := rws_cons h
    rw [e]; exact RWs.mk r (RWs.set n q r')
theorem RWs.rev : ∀ {ws : List W} {vs : List V}, RWs K ι H ws vs → RWs K ι H ws.reverse vs.reverse
  | [], vs, h => by rw [rws_nil h]; exact RWs.nl
  | w :: ws, vs, h => by
    obtain ⟨v, vr, e, r, q⟩ := rws_cons h
    rw [e, List.reverse_cons, List.reverse_cons]
    exact RWs.append (RWs.rev q) (RWs.mk r RWs.nl)
theorem RWs.eraseIdx : ∀ (n : Nat) {ws : List W} {vs : List V}, RWs K ι H ws vs → RWs K ι H (ws.eraseIdx n) (vs.eraseIdx n)
  | n, [], vs, h => by rw [rws_nil h]; exact RWs.nl
  | 0, w :: ws, vs, h => by
    obtain ⟨v, vr, e, r, q⟩ := rws_cons h
    rw [e]; exact q
  | n + 1, w :: ws, vs, h => by
    obtain ⟨v, vr, e, r, q⟩ := rws_cons h
    rw [e]; exact RWs.mk r (RWs.eraseIdx n q)
end

/-- a list of scalars, told by a function -/
theorem rws_map {K : PySem.W.Frag} {ι : List Addr} {H : Hp} {α : Type} (f : α → W) (g : α → V) (hf : ∀ a v, RW K ι H (f a) v → v = g a) : ∀ {xs : List α} {vs : List V}, RWs K ι H (xs.map f) vs → vs = xs.map g
  | [], vs, h => rws_nil h
  | a :: xs, vs, h => by
    obtain ⟨v, vr, e, r, q⟩ := rws_cons h
    rw [e, hf a v r, rws_map f g hf q]; rfl
theorem rws_ofmap {K : PySem.W.Frag} {ι : List Addr} {H : Hp} {α : Type} (f : α → W) (g : α → V) (hf : ∀ a, RW K ι H (f a) (g a)) : ∀ (xs : List α), RWs K ι H (xs.map f) (xs.map g)
  | [] => RWs.nl
  | a :: xs => RWs.mk (hf a) (rws_ofmap f g hf xs)

/-! ### names, constants -/
def mVar (i : Nat) : ME W := fun e h => match e[i]? with
  | some (some w) => some (.ok w, h)
  | _ => none
def mC (w : W) : ME W := fun _ h => some (.ok w, h)
section
variable {X : Cx} {Wx : WX} {pos : Pos}
theorem tC_of {w : W} {v : V} (r : ∀ ι H, RW X.K ι H w v) : ∀ σ H Q, tE X.K Wx (mC w) σ H Q → tC v σ H Q := by
  intro σ H Q ⟨ι, e, AH, re, s, h⟩
  exact h ι v H Le.refl s (r ι H)
theorem m_var {i : Nat} {x : Str} (hN : X.N[i]? = some x) (hv : Vis X.env.scope x) (hd : (x == ("__debug__" : Str)) = false := by decide) (hcd : (x == ("__classdict__" : Str)) = false := by decide) : PEm X Wx (.Name x pos) (mVar i) := by
  refine .imp (pe_var hN hv hd hcd) ?_
  intro σ H Q ⟨ι, e, AH, re, s, h⟩
  unfold mVar at h
  match he : e[i]?, h with
  | some (some w), h =>
    obtain ⟨v, hv, r⟩ := re.get i w he
    exact ⟨v, hv, h ι v H Le.refl s r⟩
theorem m_v (i : Nat) {x : Str} {pos : Pos} (hN : X.N[i]? = some x := by rfl) (hv : Vis X.env.scope x := by first | exact Or.inl rfl | exact Or.inr (Or.inl rfl) | exact Or.inr (Or.inr rfl)) (hd : (x == ("__debug__" : Str)) = false := by decide)
    (hcd : (x == ("__classdict__" : Str)) = false := by decide) : PEm X Wx (.Name x pos) (mVar i) := m_var hN hv hd hcd
theorem m_int {i : Int} {j pos} : PEm X Wx (.Constant (.int i) j pos) (mC (.int i)) := .imp pe_int (tC_of fun _ _ => rfl)
theorem m_bl {b : Bool} {j pos} : PEm X Wx (.Constant (.bool b) j pos) (mC (.bl b)) := .imp pe_bl (tC_of fun _ _ => rfl)
theorem m_non {j pos} : PEm X Wx (.Constant .none j pos) (mC .non) := .imp pe_non (tC_of fun _ _ => rfl)
theorem m_str {x : Str} {j pos} : PEm X Wx (.Constant (.str x) j pos) (mC (.str x)) := .imp pe_str (tC_of fun _ _ => rfl)
theorem m_glob {x : Str} {w : W} {v : V} {u : Value} (hg : Gl X x) (hm : X.mg x = some u) (r : RelV v u) (rw : ∀ ι H, RW X.K ι H w v) (hd : (x == ("__debug__" : Str)) = false := by decide) : PEm X Wx (.Name x pos) (mC w) :=
  .imp (pe_glob hg hm r hd) (tC_of rw)
theorem m_tyc {x : Str} {n : String} (hg : Gl X x) (hm : X.mg x = none) (hv : bootBuiltins x = some (.type n)) (hn : x ≠ "__name__" := by decide) (hd : (x == ("__debug__" : Str)) = false := by decide) : PEm X Wx (.Name x pos) (mC (.ty n)) :=
  .imp (pe_bltn (v := .ty n) hg hm hv rfl hn hd) (tC_of fun _ _ => rfl)
end

/-! ### operators by values -/
def mB2 (g : W → W → M W) (ma mb : ME W) : ME W := bE ma fun x => bE mb fun y => fun _ => g x y
def mU1 (g : W → M W) (ma : ME W) : ME W := bE ma fun x => fun _ => g x
section
variable {X : Cx} {Wx : WX} {pos : Pos} {a b : Expr} {ma mb : ME W}
/-- a relation of values keeps what g says -/
def Keeps2 (X : Cx) (r : R2) (g : W → W → M W) : Prop :=
  ∀ (Xx : AX → Option Addr → Hp → Prop) (ι : List Addr) (AH : Hv) (H : Hp) (w1 w2 : W) (v1 v2 : V) (Q : VK), Sr X.K ι H AH → RW X.K ι H w1 v1 → RW X.K ι H w2 v2 → Out X.K (RW X.K) Xx ι H (g w1 w2 AH) Q → r v1 v2 H Q
def Keeps1 (X : Cx) (r : V → Hp → VK → Prop) (g : W → M W) : Prop :=
  ∀ (Xx : AX → Option Addr → Hp → Prop) (ι : List Addr) (AH : Hv) (H : Hp) (w1 : W) (v1 : V) (Q : VK), Sr X.K ι H AH → RW X.K ι H w1 v1 → Out X.K (RW X.K) Xx ι H (g w1 AH) Q → r v1 H Q
def KeepsL (X : Cx) (r : List V → Hp → VK → Prop) (g : List W → M W) : Prop :=
  ∀ (Xx : AX → Option Addr → Hp → Prop) (ι : List Addr) (AH : Hv) (H : Hp) (ws : List W) (vs : List V) (Q : VK), Sr X.K ι H AH → RWs X.K ι H ws vs → Out X.K (RW X.K) Xx ι H (g ws AH) Q → r vs H Q
theorem t_b2 {r : R2} {g : W → W → M W} (k : Keeps2 X r g) {σ : L2.St} {H : Hp} {Q : VK} (h : tE X.K Wx (mB2 g ma mb) σ H Q) : tOp r (tE X.K Wx ma) (tE X.K Wx mb) σ H Q := by
  refine tG_bnd h fun ι1 w1 AH1 v1 H1 e re s1 r1 q => ?_
  obtain q := Out.bnd (R := RW X.K) q
  refine ⟨ι1, e, AH1, re, s1, q.imp fun v2 H2 ⟨ι2, w2, AH2, l, s2, r2, q2⟩ => ?_⟩
  exact k _ ι2 AH2 H2 w1 w2 v1 v2 Q s2 (RW.mono l _ _ r1) r2 q2
theorem t_u1 {r : V → Hp → VK → Prop} {g : W → M W} (k : Keeps1 X r g) {σ : L2.St} {H : Hp} {Q : VK} (h : tE X.K Wx (mU1 g ma) σ H Q) : tUn r (tE X.K Wx ma) σ H Q := by
  refine tG_bnd h fun ι1 w1 AH1 v1 H1 e re s1 r1 q => ?_
  exact k _ ι1 AH1 H1 w1 v1 Q s1 r1 q
def OpM (X : Cx) (f : Value → Value → Sem Value) (g : W → W → M W) : Prop := ∃ r, OpR X f r ∧ Keeps2 X r g
def UnM (X : Cx) (f : Value → Sem Value) (g : W → M W) : Prop := ∃ r, UnR X f r ∧ Keeps1 X r g
theorem m_bin {op : Operator} {g : W → W → M W} (ho : OpM X (binaryOp op) g) (ha : PEm X Wx a ma) (hb : PEm X Wx b mb) : PEm X Wx (.BinOp a op b pos) (mB2 g ma mb) := by
  obtain ⟨r, ho, k⟩ := ho
  exact .imp (pe_op ho ha.pe hb.pe) fun σ H Q h => t_b2 k h
theorem m_un {op : UnaryOp} {g : W → M W} (ho : UnM X (unaryOp op) g) (ha : PEm X Wx a ma) : PEm X Wx (.UnaryOp op a pos) (mU1 g ma) := by
  obtain ⟨r, ho, k⟩ := ho
  exact .imp (pe_un ho ha.pe) fun σ H Q h => t_u1 k h
theorem m_cmp {op : CmpOp} {g : W → W → M W} (ho : OpM X (compareOp op) g) (ha : PEm X Wx a ma) (hb : PEm X Wx b mb) (hm : behindInMarks op b = false := by first | exact nomark _ | rfl) : PEm X Wx (.Compare a [op] [b] pos) (mB2 g ma mb) := by
  obtain ⟨r, ho, k⟩ := ho
  exact .imp (pe_cmpR ho ha.pe hb.pe hm) fun σ H Q h => t_b2 k h
theorem OpM.or {f : Value → Value → Sem Value} {g g1 g2 : W → W → M W} (h1 : OpM X f g1) (h2 : OpM X f g2) (c : ∀ w1 w2 h, g w1 w2 h = g1 w1 w2 h ∨ g w1 w2 h = g2 w1 w2 h) : OpM X f g := by
  obtain ⟨r1, o1, k1⟩ := h1
  obtain ⟨r2, o2, k2⟩ := h2
  refine ⟨_, OpR.or o1 o2, fun Xx ι AH H w1 w2 v1 v2 Q s a b h => ?_⟩
  rcases c w1 w2 AH with e | e
  · exact .inl (k1 Xx ι AH H w1 w2 v1 v2 Q s a b (e ▸ h))
  · exact .inr (k2 Xx ι AH H w1 w2 v1 v2 Q s a b (e ▸ h))
/-- two ints -/
def asI : W → Option Int
  | .int i => some i
  | _ => none
theorem asI_eq {w : W} {i : Int} (h : asI w = some i) : w = .int i := by
  cases w <;> simp [asI] at h
  rw [h]
def asS : W → Option Str
  | .str i => some i
  | _ => none
theorem asS_eq {w : W} {i : Str} (h : asS w = some i) : w = .str i := by
  cases w <;> simp [asS] at h
  rw [h]
def asT : W → Option (List W)
  | .tup i => some i
  | _ => none
theorem asT_eq {w : W} {i : List W} (h : asT w = some i) : w = .tup i := by
  cases w <;> simp [asT] at h
  rw [h]
def gI (C : Int → Int → Prop) [∀ i j, Decidable (C i j)] (f : Int → Int → W) : W → W → M W := fun x y h => match asI x, asI y with
  | some i, some j => if C i j then some (.ok (f i j), h) else none
  | _, _ => none
theorem keeps_I {C : Int → Int → Prop} [∀ i j, Decidable (C i j)] {f : Int → Int → W} {fv : Int → Int → V} (hf : ∀ ι H i j, RW X.K ι H (f i j) (fv i j)) : Keeps2 X (rI C fv) (gI C f) := by
  intro Xx ι AH H w1 w2 v1 v2 Q s a b h
  unfold gI at h
  cases e1 : asI w1 with
  | none => rw [e1] at h; exact h.elim
  | some i =>
    cases e2 : asI w2 with
    | none => rw [e1, e2] at h; exact h.elim
    | some j =>
      rw [e1, e2] at h
      cases asI_eq e1
      cases asI_eq e2
      by_cases c : C i j
      · have h : Out X.K (RW X.K) Xx ι H (if C i j then some (.ok (f i j), AH) else none) Q := h
        rw [if_pos c] at h
        exact ⟨i, j, a, b, c, h ι _ H Le.refl s (hf ι H i j)⟩
      · have h : Out X.K (RW X.K) Xx ι H (if C i j then some (.ok (f i j), AH) else none) Q := h
        rw [if_neg c] at h; exact h.elim
theorem keeps_I0 {f : Int → Int → W} {fv : Int → Int → V} (hf : ∀ ι H i j, RW X.K ι H (f i j) (fv i j)) : Keeps2 X (rI0 fv) (gI (fun _ _ => True) f) := by
  intro Xx ι AH H w1 w2 v1 v2 Q s a b h
  obtain ⟨i, j, e1, e2, _, q⟩ := keeps_I hf Xx ι AH H w1 w2 v1 v2 Q s a b h
  exact ⟨i, j, e1, e2, q⟩
end

def alloc (o : AO) : M W := fun h => some (.ok (.ref h.length), h ++ [o])
section
variable {K : PySem.W.Frag} {X : AX → Option Addr → Hp → Prop} {ι : List Addr} {H : Hp} {AH : Hv} {Q : VK}
/-- a new list -/
theorem alloc_lst {ws : List W} {vs : List V} (s : Sr K ι H AH) (r : RWs K ι H ws vs) (h : Out K (RW K) X ι H (alloc (.lst ws) AH) Q) : ∀ p, H p = none → Q (.ref p) (upd H p (.lst vs)) := fun p hp =>
  h (ι ++ [p]) (.ref p) _ (Le.more hp) (s.alloc hp ⟨vs, upd_same, RWs.mono (Le.more hp) _ _ r⟩) (show ∃ a, (ι ++ [p])[AH.length]? = some a ∧ V.ref p = .ref a from ⟨p, by rw [← s.len]; simp, rfl⟩)
/-- a new tuple -/
theorem alloc_tup {ws : List W} {vs : List V} (s : Sr K ι H AH) (r : RWs K ι H ws vs) (h : Out K (RW K) X ι H (ret (.tup ws) AH) Q) : ∀ p, H p = none → Q (.ref p) (upd H p (.tup vs)) := fun p hp =>
  h ι (.ref p) _ (Le.free hp) (s.untr hp) (show ∃ a vs', V.ref p = .ref a ∧ SqT K (upd H p (.tup vs)) a vs' ∧ RWs K ι (upd H p (.tup vs)) ws vs' from ⟨p, vs, rfl, SqT.of upd_same, RWs.mono (Le.free hp) _ _ r⟩)
theorem same_tup {ws : List W} {a : Addr} {vs : List V} (s : Sr K ι H AH) (t : SqT K H a vs) (r : RWs K ι H ws vs) (h : Out K (RW K) X ι H (ret (.tup ws) AH) Q) : Q (.ref a) H :=
  h ι (.ref a) H Le.refl s (show ∃ a' vs', V.ref a = .ref a' ∧ SqT K H a' vs' ∧ RWs K ι H ws vs' from ⟨a, vs, rfl, t, r⟩)
end

/-- what stands at a number, as a list -/
def lstAt (h : Hv) (n : Nat) : Option (List W) := match h[n]? with
  | some (.lst ws) => some ws
  | _ => none
theorem lstAt_eq {h : Hv} {n : Nat} {ws : List W} (e : lstAt h n = some ws) : h[n]? = some (.lst ws) := by
  unfold lstAt at e
  cases ho : h[n]? with
  | none => rw [ho] at e; cases e
  | some o =>
    rw [ho] at e
    cases o with
    | lst us => cases e; rfl
    | _ => cases e
/-- what is read as a list: its items -/
def seqL (h : Hv) : W → Option (List W)
  | .cl ws => some ws
  | .ref n => lstAt h n
  | _ => none
theorem seqL_ok {K : PySem.W.Frag} {ι : List Addr} {H : Hp} {AH : Hv} {w : W} {v : V} {ws : List W} (s : Sr K ι H AH) (r : RW K ι H w v) (h : seqL AH w = some ws) : ∃ a vs, v = .ref a ∧ SqL K H a vs ∧ RWs K ι H ws vs := by
  cases w with
  | cl us =>
    have e : us = ws := Option.some.inj h
    subst e
    obtain ⟨a, vs, e1, c, q⟩ := rw_cl r
    exact ⟨a, vs, e1, c.sq, q⟩
  | ref n =>
    obtain ⟨a, ha, e1⟩ := rw_ref r
    obtain ⟨vs, e2, q⟩ := s.at ha (lstAt_eq h)
    exact ⟨a, vs, e1, SqL.of e2, q⟩
  | _ => cases h
/-- .. as a list or a tuple -/
def seqLT (h : Hv) : W → Option (List W)
  | .tup ws => some ws
  | .cl ws => some ws
  | .ref n => lstAt h n
  | _ => none
theorem seqLT_ok {K : PySem.W.Frag} {ι : List Addr} {H : Hp} {AH : Hv} {w : W} {v : V} {ws : List W} (s : Sr K ι H AH) (r : RW K ι H w v) (h : seqLT AH w = some ws) : ∃ a vs, v = .ref a ∧ (SqL K H a vs ∨ SqT K H a vs) ∧ RWs K ι H ws vs := by
  cases w with
  | tup us =>
    have e : us = ws := Option.some.inj h
    subst e
    obtain ⟨a, vs, e1, t, q⟩ := rw_tup r
    exact ⟨a, vs, e1, .inr t, q⟩
  | cl us =>
    obtain ⟨a, vs, e1, t, q⟩ := seqL_ok s r (show seqL AH (.cl us) = some ws from h)
    exact ⟨a, vs, e1, .inl t, q⟩
  | ref n =>
    obtain ⟨a, vs, e1, t, q⟩ := seqL_ok s r (show seqL AH (.ref n) = some ws from h)
    exact ⟨a, vs, e1, .inl t, q⟩
  | _ => cases h
/-- a list that may be written -/
def mlst (h : Hv) : W → Option (Nat × List W)
  | .ref n => (lstAt h n).map fun ws => (n, ws)
  | _ => none
theorem mlst_eq {h : Hv} {w : W} {n : Nat} {ws : List W} (e : mlst h w = some (n, ws)) : w = .ref n ∧ h[n]? = some (.lst ws) := by
  cases w with
  | ref m =>
    have e : (lstAt h m).map (fun ws => (m, ws)) = some (n, ws) := e
    cases ho : lstAt h m with
    | none => rw [ho] at e; cases e
    | some us =>
      rw [ho] at e
      cases e
      exact ⟨rfl, lstAt_eq ho⟩
  | _ => cases e
theorem mlst_ok {K : PySem.W.Frag} {ι : List Addr} {H : Hp} {AH : Hv} {w : W} {v : V} {n : Nat} {ws : List W} (s : Sr K ι H AH) (r : RW K ι H w v) (h : mlst AH w = some (n, ws)) : ∃ a vs, v = .ref a ∧ ι[n]? = some a ∧ H a = some (.lst vs) ∧ RWs K ι H ws vs := by
  obtain ⟨rfl, ho⟩ := mlst_eq h
  obtain ⟨a, ha, e1⟩ := rw_ref r
  obtain ⟨vs, e2, q⟩ := s.at ha ho
  exact ⟨a, vs, e1, ha, e2, q⟩

end Z
namespace Z
open PySem L2
section
variable {X : Cx}
theorem out_ite {α β : Type} {K : PySem.W.Frag} {R : List Addr → Hp → α → β → Prop} {Xx : AX → Option Addr → Hp → Prop} {ι : List Addr} {H : Hp} {c : Prop} [Decidable c] {r : Rs α} {Q : β → Hp → Prop}
    (h : Out K R Xx ι H (if c then r else none) Q) : c ∧ Out K R Xx ι H r Q := by
  by_cases e : c
  · rw [if_pos e] at h; exact ⟨e, h⟩
  · rw [if_neg e] at h; exact h.elim
/-! ### + - * // % ** -/
def catM (x y : W) : M W := fun h => match mlst h x, mlst h y with
  | some a, some b => if a.2.length + b.2.length ≤ sizeLine then alloc (.lst (a.2 ++ b.2)) h else none
  | _, _ => none
theorem op_catM : OpM X (binaryOp .Add) catM := by
  refine ⟨_, op_cat, ?_⟩
  intro Xx ι AH H w1 w2 v1 v2 Q s r1 r2 h
  unfold catM at h
  cases e1 : mlst AH w1 with
  | none => rw [e1] at h; exact h.elim
  | some a =>
    cases e2 : mlst AH w2 with
    | none => rw [e1, e2] at h; exact h.elim
    | some b =>
      rw [e1, e2] at h
      obtain ⟨c, h⟩ := out_ite h
      obtain ⟨p, xs, ep, _, hp, rp⟩ := mlst_ok s r1 (n := a.1) (ws := a.2) e1
      obtain ⟨q, ys, eq, _, hq, rq⟩ := mlst_ok s r2 (n := b.1) (ws := b.2) e2
      exact ⟨p, q, xs, ys, ep, eq, hp, hq, by rw [← rp.length, ← rq.length]; exact c, alloc_lst s (RWs.append rp rq) h⟩
def catS (x y : W) : M W := fun h => match asS x, asS y with
  | some a, some b => if a.length + b.length ≤ sizeLine then some (.ok (.str (a ++ b)), h) else none
  | _, _ => none
theorem op_catS : OpM X (binaryOp .Add) catS := by
  refine ⟨_, op_add_str, ?_⟩
  intro Xx ι AH H w1 w2 v1 v2 Q s r1 r2 h
  unfold catS at h
  cases e1 : asS w1 with
  | none => rw [e1] at h; exact h.elim
  | some a =>
    cases e2 : asS w2 with
    | none => rw [e1, e2] at h; exact h.elim
    | some b =>
      rw [e1, e2] at h
      obtain ⟨c, h⟩ := out_ite h
      cases asS_eq e1
      cases asS_eq e2
      exact ⟨a, b, r1, r2, c, h ι _ H Le.refl s (show V.str (a ++ b) = _ from rfl)⟩
def catT (x y : W) : M W := fun h => match asT x, asT y with
  | some a, some b => if a.length + b.length ≤ sizeLine then ret (.tup (a ++ b)) h else none
  | _, _ => none
theorem op_catTM : OpM X (binaryOp .Add) catT := by
  refine ⟨_, op_catA, ?_⟩
  intro Xx ι AH H w1 w2 v1 v2 Q s r1 r2 h
  unfold catT at h
  cases e1 : asT w1 with
  | none => rw [e1] at h; exact h.elim
  | some a =>
    cases e2 : asT w2 with
    | none => rw [e1, e2] at h; exact h.elim
    | some b =>
      rw [e1, e2] at h
      obtain ⟨c, h⟩ := out_ite h
      cases asT_eq e1
      cases asT_eq e2
      obtain ⟨p, xs, ep, hp, rp⟩ := rw_tup r1
      obtain ⟨q, ys, eq, hq, rq⟩ := rw_tup r2
      refine ⟨p, q, xs, ys, ep, eq, hp, hq, by rw [← rp.length, ← rq.length]; exact c, fun z => ?_, fun z z' => ?_, fun z z' => ?_⟩
      · have za : a = [] := List.length_eq_zero_iff.mp (by rw [rp.length, z]; rfl)
        subst za
        exact same_tup s hq rq h
      · have zb : b = [] := List.length_eq_zero_iff.mp (by rw [rq.length, z']; rfl)
        subst zb
        rw [List.append_nil] at h
        exact same_tup s hp rp h
      · exact alloc_tup s (RWs.append rp rq) h
def addM : W → W → M W := fun x y => match x with
  | .int _ => gI (fun _ _ => True) (fun i j => .int (i + j)) x y
  | .str _ => catS x y
  | .tup _ => catT x y
  | _ => catM x y
theorem op_addM : OpM X (binaryOp .Add) addM := by
  refine OpM.or (g1 := gI (fun _ _ => True) (fun i j => .int (i + j))) (g2 := fun x y => match x with
    | .str _ => catS x y
    | .tup _ => catT x y
    | _ => catM x y) ⟨_, op_add, keeps_I0 fun _ _ _ _ => rfl⟩ (OpM.or (g1 := catS) (g2 := fun x y => match x with
    | .tup _ => catT x y
    | _ => catM x y) op_catS (OpM.or (g1 := catT) (g2 := catM) op_catTM op_catM ?_) ?_) ?_
  all_goals (intro w1 w2 h; cases w1 <;> first | exact .inl rfl | exact .inr rfl)
def subM : W → W → M W := gI (fun _ _ => True) fun i j => .int (i - j)
theorem op_subM : OpM X (binaryOp .Sub) subM := ⟨_, op_sub, keeps_I0 fun _ _ _ _ => rfl⟩
instance (i j : Int) : Decidable (CMul i j) := by unfold CMul; exact inferInstance
instance (i j : Int) : Decidable (CDiv i j) := by unfold CDiv; exact inferInstance
instance (i j : Int) : Decidable (CPow i j) := by unfold CPow; exact inferInstance
def mulM : W → W → M W := gI CMul fun i j => .int (i * j)
theorem op_mulM : OpM X (binaryOp .Mult) mulM := ⟨_, op_mul, keeps_I fun _ _ _ _ => rfl⟩
def fdivM : W → W → M W := gI CDiv fun i j => .int (i / j)
theorem op_fdivM : OpM X (binaryOp .FloorDiv) fdivM := ⟨_, op_fdiv, keeps_I fun _ _ _ _ => rfl⟩
def modM : W → W → M W := gI (fun _ j => 0 < j) fun i j => .int (i % j)
theorem op_modM : OpM X (binaryOp .Mod) modM := ⟨_, op_mod, keeps_I fun _ _ _ _ => rfl⟩
def powM : W → W → M W := gI CPow fun i j => .int (i ^ j.toNat)
theorem op_powM : OpM X (binaryOp .Pow) powM := ⟨_, op_pow, keeps_I fun _ _ _ _ => rfl⟩
def ltM : W → W → M W := gI (fun _ _ => True) fun i j => .bl (decide (i < j))
theorem op_ltM : OpM X (compareOp .Lt) ltM := ⟨_, op_lt, keeps_I0 fun _ _ _ _ => rfl⟩
def leM : W → W → M W := gI (fun _ _ => True) fun i j => .bl (decide (i ≤ j))
theorem op_leM : OpM X (compareOp .LtE) leM := ⟨_, op_le, keeps_I0 fun _ _ _ _ => rfl⟩
def gtM : W → W → M W := gI (fun _ _ => True) fun i j => .bl (decide (j < i))
theorem op_gtM : OpM X (compareOp .Gt) gtM := ⟨_, op_gt, keeps_I0 fun _ _ _ _ => rfl⟩
def geM : W → W → M W := gI (fun _ _ => True) fun i j => .bl (decide (j ≤ i))
theorem op_geM : OpM X (compareOp .GtE) geM := ⟨_, op_ge, keeps_I0 fun _ _ _ _ => rfl⟩
def negM : W → M W := fun x h => match asI x with
  | some i => some (.ok (.int (-i)), h)
  | none => none
theorem un_negM : UnM X (unaryOp .USub) negM := by
  refine ⟨_, un_neg, ?_⟩
  intro Xx ι AH H w1 v1 Q s r1 h
  unfold negM at h
  cases e1 : asI w1 with
  | none => rw [e1] at h; exact h.elim
  | some i =>
    rw [e1] at h
    cases asI_eq e1
    exact ⟨i, r1, h ι _ H Le.refl s (show V.int (-i) = _ from rfl)⟩

/-! ### data -/
def toDs (f : W → Option PyData) : List W → Option (List PyData)
  | [] => some []
  | w :: ws => match f w with
    | some d => (toDs f ws).map (d :: ·)
    | none => none
def toD0 : W → Option PyData
  | .non => some .none
  | .bl b => some (.bool b)
  | .int i => some (.int i)
  | .str x => some (.str x)
  | _ => none
def toD (h : Hv) : Nat → W → Option PyData
  | 0 => toD0
  | n + 1 => fun w => match w with
    | .tup ws => (toDs (toD h n) ws).map .tuple
    | .cl ws => (toDs (toD h n) ws).map .list
    | .ref k => match lstAt h k with
      | some ws => (toDs (toD h n) ws).map .list
      | none => none
    | w => toD0 w
theorem toDs_ok {K : PySem.W.Frag} {ι : List Addr} {H : Hp} {g : W → Option PyData} (f : ∀ w v d, RW K ι H w v → g w = some d → Dp K H v d) : ∀ {ws : List W} {vs : List V} {ds : List PyData}, RWs K ι H ws vs → toDs g ws = some ds → DpAll K H vs ds
  | [], vs, ds, r, e => by
    have e : some [] = some ds := e
    cases e
    rw [rws_nil r]; exact .nil
  | w :: ws, vs, ds, r, e => by
    have e : (match g w with
      | some d => (toDs g ws).map (d :: ·)
      | none => none) = some ds := e
    obtain ⟨v, vr, ev, rv, q⟩ := rws_cons r
    cases e1 : g w with
    | none => rw [e1] at e; cases e
    | some d =>
      rw [e1] at e
      have e : (toDs g ws).map (d :: ·) = some ds := e
      cases e2 : toDs g ws with
      | none => rw [e2] at e; cases e
      | some ds' =>
        rw [e2] at e
        cases e
        rw [ev]
        exact .cons (f w v d rv e1) (toDs_ok f q e2)
theorem toD_ok {K : PySem.W.Frag} {ι : List Addr} {H : Hp} {AH : Hv} (s : Sr K ι H AH) : ∀ (n : Nat) (w : W) (v : V) (d : PyData), RW K ι H w v → toD AH n w = some d → Dp K H v d := by
  intro n
  induction n with
  | zero =>
    intro w v d r e
    cases w with
    | non => cases e; rw [rw_non r]; exact .non
    | bl b => cases e; rw [rw_bl r]; exact .bl b
    | int b => cases e; rw [rw_int r]; exact .int b
    | str b => cases e; rw [rw_str r]; exact .str b
    | _ => cases e
  | succ n ih =>
    intro w v d r e
    cases w with
    | non => cases e; rw [rw_non r]; exact .non
    | bl b => cases e; rw [rw_bl r]; exact .bl b
    | int b => cases e; rw [rw_int r]; exact .int b
    | str b => cases e; rw [rw_str r]; exact .str b
    | tup ws =>
      obtain ⟨a, vs, e1, t, q⟩ := rw_tup r
      have e : (toDs (toD AH n) ws).map .tuple = some d := e
      cases e2 : toDs (toD AH n) ws with
      | none => rw [e2] at e; cases e
      | some ds =>
        rw [e2] at e
        cases e
        rw [e1]; exact .tup t (toDs_ok ih q e2)
    | cl ws =>
      obtain ⟨a, vs, e1, t, q⟩ := rw_cl r
      have e : (toDs (toD AH n) ws).map .list = some d := e
      cases e2 : toDs (toD AH n) ws with
      | none => rw [e2] at e; cases e
      | some ds =>
        rw [e2] at e
        cases e
        rw [e1]; exact .lst t.sq (toDs_ok ih q e2)
    | ref k =>
      obtain ⟨a, ha, e1⟩ := rw_ref r
      have e : (match lstAt AH k with
        | some ws => (toDs (toD AH n) ws).map .list
        | none => none) = some d := e
      cases e3 : lstAt AH k with
      | none => rw [e3] at e; cases e
      | some ws =>
        rw [e3] at e
        obtain ⟨vs, t, q⟩ := s.at ha (lstAt_eq e3)
        have e : (toDs (toD AH n) ws).map .list = some d := e
        cases e2 : toDs (toD AH n) ws with
        | none => rw [e2] at e; cases e
        | some ds =>
          rw [e2] at e
          cases e
          rw [e1]; exact .lst (SqL.of t) (toDs_ok ih q e2)
    | _ => cases e
/-- == of data -/
def dOf (h : Hv) (w : W) : Option PyData := match toD h 60 w with
  | some d => if SeqAt.shaped d = true then some d else none
  | none => none
theorem dOf_ok {K : PySem.W.Frag} {ι : List Addr} {H : Hp} {AH : Hv} {w : W} {v : V} {d : PyData} (s : Sr K ι H AH) (r : RW K ι H w v) (e : dOf AH w = some d) : Dp K H v d ∧ SeqAt.shaped d = true := by
  unfold dOf at e
  cases e1 : toD AH 60 w with
  | none => rw [e1] at e; cases e
  | some d' =>
    rw [e1] at e
    have e : (if SeqAt.shaped d' = true then some d' else none) = some d := e
    by_cases c : SeqAt.shaped d' = true
    · rw [if_pos c] at e
      cases e
      exact ⟨toD_ok s 60 w v d r e1, c⟩
    · rw [if_neg c] at e; cases e
def gD (f : PyData → PyData → Bool) : W → W → M W := fun x y h => match dOf h x, dOf h y with
  | some d, some e => some (.ok (.bl (f d e)), h)
  | _, _ => none
def eqDM : W → W → M W := gD fun d e => PyData.eqv d e
def neDM : W → W → M W := gD fun d e => !PyData.eqv d e
theorem op_eqDM (hu : X.A.units + 64 < cLine) : OpM X (compareOp .Eq) eqDM := by
  refine ⟨_, op_eqD hu, ?_⟩
  intro Xx ι AH H w1 w2 v1 v2 Q s r1 r2 h
  unfold eqDM gD at h
  cases e1 : dOf AH w1 with
  | none => rw [e1] at h; exact h.elim
  | some a =>
    cases e2 : dOf AH w2 with
    | none => rw [e1, e2] at h; exact h.elim
    | some b =>
      rw [e1, e2] at h
      obtain ⟨d1, s1⟩ := dOf_ok s r1 e1
      obtain ⟨d2, s2⟩ := dOf_ok s r2 e2
      exact ⟨a, b, d1, d2, s1, s2, h ι _ H Le.refl s (show V.bl _ = _ from rfl)⟩
theorem op_neDM (hu : X.A.units + 64 < cLine) : OpM X (compareOp .NotEq) neDM := by
  refine ⟨_, op_neD hu, ?_⟩
  intro Xx ι AH H w1 w2 v1 v2 Q s r1 r2 h
  unfold neDM gD at h
  cases e1 : dOf AH w1 with
  | none => rw [e1] at h; exact h.elim
  | some a =>
    cases e2 : dOf AH w2 with
    | none => rw [e1, e2] at h; exact h.elim
    | some b =>
      rw [e1, e2] at h
      obtain ⟨d1, s1⟩ := dOf_ok s r1 e1
      obtain ⟨d2, s2⟩ := dOf_ok s r2 e2
      exact ⟨a, b, d1, d2, s1, s2, h ι _ H Le.refl s (show V.bl _ = _ from rfl)⟩
/-- of texts -/
def eqSM (k : Bool → Bool) : W → W → M W := fun x y h => match asS x, asS y with
  | some a, some b => some (.ok (.bl (k (decide (a = b)))), h)
  | _, _ => none
theorem keeps_eqS {k : Bool → Bool} {r : R2} (hr : ∀ a b H Q, Q (.bl (k (decide (a = b)))) H → r (.str a) (.str b) H Q) : Keeps2 X r (eqSM k) := by
  intro Xx ι AH H w1 w2 v1 v2 Q s r1 r2 h
  unfold eqSM at h
  cases e1 : asS w1 with
  | none => rw [e1] at h; exact h.elim
  | some a =>
    cases e2 : asS w2 with
    | none => rw [e1, e2] at h; exact h.elim
    | some b =>
      rw [e1, e2] at h
      cases asS_eq e1
      cases asS_eq e2
      rw [rw_str r1, rw_str r2]
      exact hr a b H Q (h ι _ H Le.refl s (show V.bl _ = _ from rfl))
theorem dec_strV {a b : Str} : decide (V.str a = V.str b) = decide (a = b) := by simp
def bothS (x y : W) : Bool := (asS x).isSome && (asS y).isSome
def eqM (x y : W) : M W := if bothS x y = true then eqSM id x y else eqDM x y
def neM (x y : W) : M W := if bothS x y = true then eqSM not x y else neDM x y
theorem op_eqM (hu : X.A.units + 64 < cLine) : OpM X (compareOp .Eq) eqM :=
  OpM.or (g1 := eqSM id) (g2 := eqDM) ⟨_, op_eq, keeps_eqS fun a b H Q q => ⟨rfl, by rw [dec_strV]; exact q⟩⟩ (op_eqDM hu) fun x y h => by
    by_cases c : bothS x y = true
    · exact .inl (by unfold eqM; rw [if_pos c])
    · exact .inr (by unfold eqM; rw [if_neg c])
theorem op_neM (hu : X.A.units + 64 < cLine) : OpM X (compareOp .NotEq) neM :=
  OpM.or (g1 := eqSM not) (g2 := neDM) ⟨_, op_ne, keeps_eqS fun a b H Q q => ⟨rfl, by rw [dec_strV]; exact q⟩⟩ (op_neDM hu) fun x y h => by
    by_cases c : bothS x y = true
    · exact .inl (by unfold neM; rw [if_pos c])
    · exact .inr (by unfold neM; rw [if_neg c])
end
end Z
namespace Z
open PySem L2
section
variable {X : Cx} {Wx : WX} {pos : Pos} {a b c : Expr} {rest : List Expr} {ma mb mc : ME W}
/-! ### tests -/
def tst (w : W) : M Bool := fun h => match w with
  | .bl b => some (.ok b, h)
  | _ => none
def mTest (ma : ME W) : ME Bool := bE ma fun w => fun _ => tst w
theorem out_test {K : PySem.W.Frag} {Xx : AX → Option Addr → Hp → Prop} {ι : List Addr} {H : Hp} {AH : Hv} {w : W} {v : V} {Q : Bool → Hp → Prop} (s : Sr K ι H AH) (r : RW K ι H w v)
    (h : Out K RB Xx ι H (tst w AH) Q) : ∃ k, v = .bl k ∧ Q k H := by
  cases w with
  | bl b => exact ⟨b, r, h ι b H Le.refl s rfl⟩
  | _ => exact h.elim
theorem m_tval (h : PEm X Wx a ma) (he : ∀ whole, isTrue a X.env whole = (do let v ← whole; standAt a.pos; holding [v] (truthy v)) := by intro _; rfl) : PTm X Wx a (mTest ma) :=
  ⟨PT_imp (pt_val h.pe he) fun σ H Q q => tG_bnd q fun ι1 w AH1 v H1 e re s1 r1 q => out_test s1 r1 q⟩
theorem m_tcmp {op : CmpOp} {g : W → W → M W} (ho : OpM X (compareOp op) g) (ha : PEm X Wx a ma) (hb : PEm X Wx b mb) (hm : behindInMarks op b = false := by first | exact nomark _ | rfl) : PTm X Wx (.Compare a [op] [b] pos) (mTest (mB2 g ma mb)) := by
  obtain ⟨r, ho, k⟩ := ho
  refine ⟨PT_imp (pt_cmpR ho ha.pe hb.pe hm) fun σ H Q q => ?_⟩
  have q2 : tE X.K Wx (mB2 g ma mb) σ H fun x H' => ∃ k, x = .bl k ∧ Q k H' := tG_bnd q fun ι1 w AH1 v H1 e re s1 r1 q => out_test s1 r1 q
  exact t_b2 k q2
def mNotT (m : ME Bool) : ME Bool := bE m fun c => fun _ h => some (.ok (!c), h)
theorem m_tnot {m : ME Bool} (h : PTm X Wx a m) : PTm X Wx (.UnaryOp .Not a pos) (mNotT m) :=
  ⟨PT_imp (pt_not h.pt) fun σ H Q q => tG_bnd q fun ι1 w AH1 v H1 e re s1 r1 q => by
    cases r1
    exact q ι1 (!w) H1 Le.refl s1 rfl⟩
def mB (b : Bool) : ME Bool := fun _ h => some (.ok b, h)
def mAndT (m k : ME Bool) : ME Bool := bE m fun c => match c with
  | true => k
  | false => mB false
def mOrT (m k : ME Bool) : ME Bool := bE m fun c => match c with
  | true => mB true
  | false => k
theorem m_wand1 {m : ME Bool} (h : PTm X Wx a m) : PWm X Wx (.BoolOp .And [a] pos) m := ⟨pw_and1 h.pt⟩
theorem m_wor1 {m : ME Bool} (h : PTm X Wx a m) : PWm X Wx (.BoolOp .Or [a] pos) m := ⟨pw_or1 h.pt⟩
theorem m_wand {m k : ME Bool} (h : PTm X Wx a m) (h2 : PWm X Wx (.BoolOp .And (b :: rest) pos) k) : PWm X Wx (.BoolOp .And (a :: b :: rest) pos) (mAndT m k) :=
  ⟨PW_imp (pw_and h.pt h2.pw) fun σ H Q q => tG_bnd q fun ι1 w AH1 v H1 e re s1 r1 q => by
    cases r1
    cases w with
    | true => rw [if_pos rfl]; exact ⟨ι1, e, AH1, re, s1, q⟩
    | false => rw [if_neg Bool.false_ne_true]; exact q ι1 false H1 Le.refl s1 rfl⟩
theorem m_wor {m k : ME Bool} (h : PTm X Wx a m) (h2 : PWm X Wx (.BoolOp .Or (b :: rest) pos) k) : PWm X Wx (.BoolOp .Or (a :: b :: rest) pos) (mOrT m k) :=
  ⟨PW_imp (pw_or h.pt h2.pw) fun σ H Q q => tG_bnd q fun ι1 w AH1 v H1 e re s1 r1 q => by
    cases r1
    cases w with
    | true => rw [if_pos rfl]; exact q ι1 true H1 Le.refl s1 rfl
    | false => rw [if_neg Bool.false_ne_true]; exact ⟨ι1, e, AH1, re, s1, q⟩⟩
theorem PWm.t {m : ME Bool} (h : PWm X Wx a m) : PTm X Wx a m := ⟨h.pw.pt⟩
/-! ### and, or, not as values (of truths) -/
def mAndV (m k : ME W) : ME W := bE m fun w => match w with
  | .bl true => k
  | .bl false => fun _ h => some (.ok (.bl false), h)
  | _ => fun _ _ => none
def mOrV (m k : ME W) : ME W := bE m fun w => match w with
  | .bl true => fun _ h => some (.ok (.bl true), h)
  | .bl false => k
  | _ => fun _ _ => none
def mNotV (m : ME W) : ME W := bE m fun w => fun _ h => match w with
  | .bl b => some (.ok (.bl (!b)), h)
  | _ => none
theorem m_one {op} (h : PEm X Wx a ma) : PEm X Wx (.BoolOp op [a] pos) ma := ⟨pe_one h.pe⟩
theorem m_and (h : PEm X Wx a ma) (h2 : PEm X Wx (.BoolOp .And (b :: rest) pos) mb) : PEm X Wx (.BoolOp .And (a :: b :: rest) pos) (mAndV ma mb) :=
  .imp (pe_and h.pe h2.pe) fun σ H Q q => tG_bnd q fun ι1 w AH1 v H1 e re s1 r1 q => by
    cases w with
    | bl c =>
      cases c with
      | true => exact ⟨true, r1, by rw [if_pos rfl]; exact ⟨ι1, e, AH1, re, s1, q⟩⟩
      | false => exact ⟨false, r1, by rw [if_neg Bool.false_ne_true]; exact q ι1 (.bl false) H1 Le.refl s1 rfl⟩
    | _ => exact q.elim
theorem m_or (h : PEm X Wx a ma) (h2 : PEm X Wx (.BoolOp .Or (b :: rest) pos) mb) : PEm X Wx (.BoolOp .Or (a :: b :: rest) pos) (mOrV ma mb) :=
  .imp (pe_or h.pe h2.pe) fun σ H Q q => tG_bnd q fun ι1 w AH1 v H1 e re s1 r1 q => by
    cases w with
    | bl c =>
      cases c with
      | true => exact ⟨true, r1, by rw [if_pos rfl]; exact q ι1 (.bl true) H1 Le.refl s1 rfl⟩
      | false => exact ⟨false, r1, by rw [if_neg Bool.false_ne_true]; exact ⟨ι1, e, AH1, re, s1, q⟩⟩
    | _ => exact q.elim
theorem m_not (h : PEm X Wx a ma) : PEm X Wx (.UnaryOp .Not a pos) (mNotV ma) :=
  .imp (pe_not h.pe) fun σ H Q q => tG_bnd q fun ι1 w AH1 v H1 e re s1 r1 q => by
    cases w with
    | bl c => exact ⟨c, r1, q ι1 (.bl (!c)) H1 Le.refl s1 rfl⟩
    | _ => exact q.elim
def mIf {α : Type} (m : ME Bool) (ma mb : ME α) : ME α := bE m fun c => match c with
  | true => ma
  | false => mb
theorem m_if {m : ME Bool} (h : PTm X Wx c m) (ha : PEm X Wx a ma) (hb : PEm X Wx b mb) : PEm X Wx (.IfExp c a b pos) (mIf m ma mb) :=
  .imp (pe_ifExp h.pt ha.pe hb.pe) fun σ H Q q => tG_bnd q fun ι1 w AH1 v H1 e re s1 r1 q => by
    cases r1
    cases w with
    | true => rw [if_pos rfl]; exact ⟨ι1, e, AH1, re, s1, q⟩
    | false => rw [if_neg Bool.false_ne_true]; exact ⟨ι1, e, AH1, re, s1, q⟩
/-! ### a < b < c -/
def mChain (g g' : W → W → M W) (ma mb mc : ME W) : ME W := bE ma fun x => bE mb fun y => bE (fun _ => g x y) fun z => match z with
  | .bl true => bE mc fun w => fun _ => g' y w
  | .bl false => fun _ h => some (.ok (.bl false), h)
  | _ => fun _ _ => none
theorem t_chain {r r' : R2} {g g' : W → W → M W} (k : Keeps2 X r g) (k' : Keeps2 X r' g') {σ : L2.St} {H : Hp} {Q : VK} (h : tE X.K Wx (mChain g g' ma mb mc) σ H Q) : tChain r r' (tE X.K Wx ma) (tE X.K Wx mb) (tE X.K Wx mc) σ H Q := by
  refine tG_bnd h fun ι1 w1 AH1 v1 H1 e re s1 r1 q => ?_
  obtain q := Out.bnd (R := RW X.K) q
  refine ⟨ι1, e, AH1, re, s1, q.imp fun v2 H2 ⟨ι2, w2, AH2, l, s2, r2, q2⟩ => ?_⟩
  obtain q2 := Out.bnd (R := RW X.K) q2
  refine k _ ι2 AH2 H2 w1 w2 v1 v2 _ s2 (RW.mono l _ _ r1) r2 (q2.imp fun v3 H3 ⟨ι3, w3, AH3, l3, s3, r3, q3⟩ => ?_)
  cases w3 with
  | bl c =>
    cases c with
    | true =>
      refine ⟨true, r3, ?_⟩
      rw [if_pos rfl]
      obtain q3 := Out.bnd (R := RW X.K) q3
      refine ⟨ι3, e, AH3, re.mono (l.trans l3), s3, q3.imp fun v4 H4 ⟨ι4, w4, AH4, l4, s4, r4, q4⟩ => ?_⟩
      exact k' _ ι4 AH4 H4 w2 w4 v2 v4 Q s4 (RW.mono (l3.trans l4) _ _ r2) r4 q4
    | false =>
      refine ⟨false, r3, ?_⟩
      rw [if_neg Bool.false_ne_true]
      exact q3 ι3 (.bl false) H3 Le.refl s3 rfl
  | _ => exact q3.elim
theorem m_chain {op op' : CmpOp} {g g' : W → W → M W} (ho : OpM X (compareOp op) g) (ho' : OpM X (compareOp op') g') (ha : PEm X Wx a ma) (hb : PEm X Wx b mb) (hc : PEm X Wx c mc)
    (hm : lastMarks [op, op'] [b, c] = false := by with_unfolding_all rfl) : PEm X Wx (.Compare a [op, op'] [b, c] pos) (mChain g g' ma mb mc) := by
  obtain ⟨r, ho, k⟩ := ho
  obtain ⟨r', ho', k'⟩ := ho'
  exact .imp (pe_chain ho ho' ha.pe hb.pe hc.pe hm) fun σ H Q h => t_chain k k' h
theorem m_tchain {op op' : CmpOp} {g g' : W → W → M W} (ho : OpM X (compareOp op) g) (ho' : OpM X (compareOp op') g') (ha : PEm X Wx a ma) (hb : PEm X Wx b mb) (hc : PEm X Wx c mc)
    (hm : lastMarks [op, op'] [b, c] = false := by with_unfolding_all rfl) : PTm X Wx (.Compare a [op, op'] [b, c] pos) (mTest (mChain g g' ma mb mc)) := by
  obtain ⟨r, ho, k⟩ := ho
  obtain ⟨r', ho', k'⟩ := ho'
  refine ⟨PT_imp (pt_chain ho ho' ha.pe hb.pe hc.pe hm) fun σ H Q q => ?_⟩
  have q2 : tE X.K Wx (mChain g g' ma mb mc) σ H fun x H' => ∃ k, x = .bl k ∧ Q k H' := tG_bnd q fun ι1 w AH1 v H1 e re s1 r1 q => out_test s1 r1 q
  exact t_chain k k' q2
/-! ### arguments, displays -/
def mNil : ME (List W) := fun _ h => some (.ok [], h)
def mCons (m : ME W) (k : ME (List W)) : ME (List W) := bE m fun w => bE k fun ws => fun _ h => some (.ok (w :: ws), h)
theorem m_nil : PAm X Wx [] mNil := ⟨PA_imp pa_nil fun σ H Q ⟨ι, e, AH, re, s, h⟩ => h ι [] H Le.refl s RWs.nl⟩
theorem m_cons {k : ME (List W)} (ha : PEm X Wx a ma) (hr : PAm X Wx rest k) (hs : starEach (a :: rest) X.env = (false, eval a X.env) :: starEach rest X.env := by rfl) : PAm X Wx (a :: rest) (mCons ma k) :=
  ⟨PA_imp (pa_cons ha.pe hr.pa hs) fun σ H Q h => tG_bnd h fun ι1 w1 AH1 v1 H1 e re s1 r1 q => by
    obtain q := Out.bnd (R := RWs X.K) q
    refine ⟨ι1, e, AH1, re, s1, q.imp fun v2 H2 ⟨ι2, w2, AH2, l, s2, r2, q2⟩ => ?_⟩
    exact q2 ι2 (v1 :: v2) H2 Le.refl s2 (RWs.mk (RW.mono l _ _ r1) r2)⟩
def mTup (m : ME (List W)) : ME W := bE m fun ws => fun _ h => if ws.length ≤ sizeLine then ret (.tup ws) h else none
def mLst (m : ME (List W)) : ME W := bE m fun ws => fun _ h => if ws.length ≤ sizeLine then alloc (.lst ws) h else none
theorem m_tup {x1} {m : ME (List W)} (h : PAm X Wx rest m) : PEm X Wx (.Tuple rest x1 pos) (mTup m) :=
  .imp (pe_tup h.pa) fun σ H Q h => tG_bnd h fun ι1 w1 AH1 v1 H1 e re s1 r1 q => by
    obtain ⟨c, q⟩ := out_ite q
    exact ⟨by rw [← r1.length]; exact c, alloc_tup s1 r1 q⟩
theorem m_lst {m : ME (List W)} (h : PAm X Wx rest m) : PEm X Wx (.List rest pos) (mLst m) :=
  .imp (pe_lst h.pa) fun σ H Q h => tG_bnd h fun ι1 w1 AH1 v1 H1 e re s1 r1 q => by
    obtain ⟨c, q⟩ := out_ite q
    exact ⟨by rw [← r1.length]; exact c, alloc_lst s1 r1 q⟩
/-! ### subscripts -/
def ixM (x y : W) : M W := fun h => match seqLT h x, asI y with
  | some ws, some i => (match atI ws i with
    | some w => some (.ok w, h)
    | none => none)
  | _, _ => none
def ixS (x y : W) : M W := fun h => match asS x, asI y with
  | some z, some i => if z.length ≤ sizeLine then (match atI z.cps.toList i with
    | some c => some (.ok (.str ⟨#[c]⟩), h)
    | none => none) else none
  | _, _ => none
theorem atI_rws {K : PySem.W.Frag} {ι : List Addr} {H : Hp} {ws : List W} {vs : List V} {i : Int} {w : W} (r : RWs K ι H ws vs) (e : atI ws i = some w) : ∃ v, atI vs i = some v ∧ RW K ι H w v := by
  unfold atI at e ⊢
  rw [← r.length]
  cases q : ixN ws.length i with
  | none => rw [q] at e; cases e
  | some j => rw [q] at e; exact r.get e
def IxM (X : Cx) (g : W → W → M W) : Prop := ∃ r, IxR X r ∧ Keeps2 X r g
theorem ix_ixM : IxM X ixM := by
  refine ⟨_, IxR.or ix_list ix_tup, ?_⟩
  intro Xx ι AH H w1 w2 v1 v2 Q s r1 r2 h
  unfold ixM at h
  cases e1 : seqLT AH w1 with
  | none => rw [e1] at h; exact h.elim
  | some ws =>
    cases e2 : asI w2 with
    | none => rw [e1, e2] at h; exact h.elim
    | some i =>
      rw [e1, e2] at h
      cases asI_eq e2
      obtain ⟨p, vs, ep, hp, rp⟩ := seqLT_ok s r1 e1
      cases e3 : atI ws i with
      | none =>
        have h : Out X.K (RW X.K) Xx ι H (match atI ws i with
          | some w => some (.ok w, AH)
          | none => none) Q := h
        rw [e3] at h; exact h.elim
      | some w =>
        have h : Out X.K (RW X.K) Xx ι H (match atI ws i with
          | some w => some (.ok w, AH)
          | none => none) Q := h
        rw [e3] at h
        obtain ⟨v, ev, rv⟩ := atI_rws rp e3
        have q := h ι v H Le.refl s rv
        rcases hp with hp | hp
        · exact .inl ⟨p, vs, i, v, ep, r2, hp, ev, q⟩
        · exact .inr ⟨p, vs, i, v, ep, r2, hp, ev, q⟩
theorem ix_ixS : IxM X ixS := by
  refine ⟨_, ix_str, ?_⟩
  intro Xx ι AH H w1 w2 v1 v2 Q s r1 r2 h
  unfold ixS at h
  cases e1 : asS w1 with
  | none => rw [e1] at h; exact h.elim
  | some z =>
    cases e2 : asI w2 with
    | none => rw [e1, e2] at h; exact h.elim
    | some i =>
      rw [e1, e2] at h
      cases asI_eq e2
      cases asS_eq e1
      obtain ⟨c, h⟩ := out_ite h
      cases e3 : atI z.cps.toList i with
      | none => rw [e3] at h; exact h.elim
      | some k =>
        rw [e3] at h
        exact ⟨z, i, k, r1, r2, c, e3, h ι _ H Le.refl s (show V.str _ = _ from rfl)⟩
theorem IxM.or {g g1 g2 : W → W → M W} (h1 : IxM X g1) (h2 : IxM X g2) (c : ∀ w1 w2 h, g w1 w2 h = g1 w1 w2 h ∨ g w1 w2 h = g2 w1 w2 h) : IxM X g := by
  obtain ⟨r1, o1, k1⟩ := h1
  obtain ⟨r2, o2, k2⟩ := h2
  refine ⟨_, IxR.or o1 o2, fun Xx ι AH H w1 w2 v1 v2 Q s a b h => ?_⟩
  rcases c w1 w2 AH with e | e
  · exact .inl (k1 Xx ι AH H w1 w2 v1 v2 Q s a b (e ▸ h))
  · exact .inr (k2 Xx ι AH H w1 w2 v1 v2 Q s a b (e ▸ h))
theorem m_ix {g : W → W → M W} (hr : IxM X g) (ha : PEm X Wx a ma) (hb : PEm X Wx b mb) (hs : PlainIx b := by intro _ _; rfl) : PEm X Wx (.Subscript a b pos) (mB2 g ma mb) := by
  obtain ⟨r, hr, k⟩ := hr
  exact .imp (pe_ix hr ha.pe hb.pe hs) fun σ H Q h => t_b2 k h
end
end Z
namespace Z
open PySem L2
section
variable {X : Cx} {Wx : WX} {pos : Pos} {a b c : Expr} {rest : List Expr} {ma mb mc : ME W} {st : Stmt} {sts sts' : List Stmt} {m k : MS}
/-! ### blocks, small statements -/
theorem t_nx {K : PySem.W.Frag} {D : Ends} {σ : L2.St} {H : Hp} (h : tS K Wx sNx D σ H) : D.nx σ H := by
  obtain ⟨ι, e, AH, re, s, h⟩ := h
  exact h ι σ H Le.refl s re
theorem s_nil : PSsm X Wx [] sNx := ⟨PSs_imp pss_nil fun D σ H h => t_nx h⟩
theorem s_cons (h : PSm X Wx st m) (h2 : PSsm X Wx sts k) : PSsm X Wx (st :: sts) (sSeq m k) := ⟨PSs_imp (pss_cons h.ps h2.ps) fun D σ H h => tS_seq h⟩
theorem s_one (h : PSm X Wx st m) : PSsm X Wx [st] m := ⟨PSs_imp (pss_one h.ps) fun D σ H h => h⟩
theorem s_pass : PSm X Wx (.Pass pos) sNx := ⟨PS_imp ps_pass fun D σ H h => t_nx h⟩
theorem s_break : PSm X Wx (.Break pos) sBk := ⟨PS_imp ps_break fun D σ H ⟨ι, e, AH, re, s, h⟩ => h ι σ H Le.refl s re⟩
theorem s_cont : PSm X Wx (.Continue pos) sCt := ⟨PS_imp ps_continue fun D σ H ⟨ι, e, AH, re, s, h⟩ => h ι σ H Le.refl s re⟩
theorem s_doc {x j pos pos'} : PSm X Wx (.Expr (.Constant (.str x) j pos) pos') sNx := ⟨PS_imp ps_doc fun D σ H h => t_nx h⟩
def sExp (m : ME W) : MS := eS m fun _ => sNx
theorem s_expr (h : PEm X Wx a ma) (hs : swapsWith a none pos.line X.env = pure false := by rfl) : PSm X Wx (.Expr a pos) (sExp ma) :=
  ⟨PS_imp (ps_expr h.pe hs) fun D σ H q => tS_eS q fun ι1 w AH1 v H1 e re s1 r1 q => q ι1 σ H1 Le.refl s1 re⟩
def sRet (m : ME W) : MS := eS m fun w => sRt w
theorem s_ret (h : PEm X Wx a ma) : PSm X Wx (.Return (some a) pos) (sRet ma) :=
  ⟨PS_imp (ps_ret h.pe) fun D σ H q => tS_eS q fun ι1 w AH1 v H1 e re s1 r1 q => q ι1 v H1 Le.refl s1 r1⟩
theorem s_retN : PSm X Wx (.Return none pos) (sRt .non) := ⟨PS_imp ps_retN fun D σ H ⟨ι, e, AH, re, s, h⟩ => h ι .non H Le.refl s rfl⟩
def sIf (t : ME Bool) (m k : MS) : MS := eS t fun c => match c with
  | true => m
  | false => k
theorem s_if {t : ME Bool} (hc : PTm X Wx c t) (ha : PSsm X Wx sts m) (hb : PSsm X Wx sts' k) : PSm X Wx (.If c sts sts' pos) (sIf t m k) :=
  ⟨PS_imp (ps_if hc.pt ha.ps hb.ps) fun D σ H q => tS_eS q fun ι1 w AH1 v H1 e re s1 r1 q => by
    cases r1
    cases w with
    | true => rw [if_pos rfl]; exact ⟨ι1, e, AH1, re, s1, q⟩
    | false => rw [if_neg Bool.false_ne_true]; exact ⟨ι1, e, AH1, re, s1, q⟩⟩
/-! ### targets -/
def tGt (K : PySem.W.Frag) (g : W → MS) : TG := fun v σ H Q => ∃ ι e AH w, RE K ι H e σ ∧ Sr K ι H AH ∧ RW K ι H w v ∧ OutS K (fun _ _ _ _ => False) ι H (g w e AH) { nx := Q, rt := fun _ _ => False }
def tGts (K : PySem.W.Frag) (g : List W → MS) : TGs := fun vs σ H Q => ∃ ι e AH ws, RE K ι H e σ ∧ Sr K ι H AH ∧ RWs K ι H ws vs ∧ OutS K (fun _ _ _ _ => False) ι H (g ws e AH) { nx := Q, rt := fun _ _ => False }
structure PGm (X : Cx) (target : Expr) (g : W → MS) : Prop where
  pg : PG X target (tGt X.K g)
structure PGsm (X : Cx) (ts : List Expr) (g : List W → MS) : Prop where
  pg : PGs X ts (tGts X.K g)
theorem PG_imp {e : Expr} {t t' : TG} (h : PG X e t) (f : ∀ v σ H Q, t' v σ H Q → t v σ H Q) : PG X e t' := ⟨fun pins s σ H v u Q I r q => h.run pins s σ H v u Q I r (f v σ H Q q)⟩
theorem PGs_imp {e : List Expr} {t t' : TGs} (h : PGs X e t) (f : ∀ v σ H Q, t' v σ H Q → t v σ H Q) : PGs X e t' := ⟨fun pins s σ H v u Q I r q => h.run pins s σ H v u Q I r (f v σ H Q q)⟩
def gNm (i : Nat) (w : W) : MS := fun e h => some (.ok .nx, e.set i (some w), h)
theorem g_name {i : Nat} {x : Str} (hN : X.N.Nodup) (hi : X.N[i]? = some x) (hx : Loc X.env.scope x) (hf : X.fn x = true ∨ X.env.scope.names.lookup x = some .local := by first | exact .inl rfl | exact .inr rfl | assumption) : PGm X (.Name x pos) (gNm i) :=
  ⟨PG_imp (pg_name hN hi hx hf) fun v σ H Q ⟨ι, e, AH, w, re, s, r, h⟩ => h ι _ H Le.refl s (re.set r)⟩
def gsNil (ws : List W) : MS := match ws with
  | [] => sNx
  | _ => fun _ _ => none
def gsCons (g : W → MS) (k : List W → MS) (ws : List W) : MS := match ws with
  | w :: r => sSeq (g w) (k r)
  | [] => fun _ _ => none
theorem gs_nil : PGsm X [] gsNil := ⟨PGs_imp pgs_nil fun v σ H Q ⟨ι, e, AH, ws, re, s, r, h⟩ => by
  cases ws with
  | nil => exact ⟨rws_nil r, h ι σ H Le.refl s re⟩
  | cons _ _ => exact h.elim⟩
theorem gs_cons {g : W → MS} {gk : List W → MS} (h1 : PGm X a g) (h2 : PGsm X rest gk) (hs : (assignEach (a :: rest) X.env).map (·.2) = assign a X.env :: (assignEach rest X.env).map (·.2) := by rfl) : PGsm X (a :: rest) (gsCons g gk) :=
  ⟨PGs_imp (pgs_cons h1.pg h2.pg hs) fun vs σ H Q ⟨ι, e, AH, ws, re, s, r, h⟩ => by
    cases ws with
    | nil => exact h.elim
    | cons w wr =>
      obtain ⟨v, vr, ev, rv, q⟩ := rws_cons r
      refine ⟨v, vr, ev, ι, e, AH, w, re, s, rv, ?_⟩
      have h : OutS X.K (fun _ _ _ _ => False) ι H (sSeq (g w) (gk wr) e AH) { nx := Q, rt := fun _ _ => False } := h
      unfold sSeq at h
      match hm : g w e AH, h with
      | none, h => exact h
      | some (.ok .nx, e', AH'), h => exact fun ι1 σ1 H1 l s1 r1 => ⟨ι1, e', AH', wr, r1, s1, RWs.mono l _ _ q, h.le l⟩
      | some (.ok .bk, e', AH'), h => exact h
      | some (.ok .ct, e', AH'), h => exact h
      | some (.ok (.rt w), e', AH'), h => exact h
      | some (.error x, e', AH'), h => exact h⟩
def gTp (n : Nat) (g : List W → MS) (w : W) : MS := match asT w with
  | some ws => if ws.length = n then g ws else fun _ _ => none
  | none => fun _ _ => none
theorem g_tup {es : List Expr} {j : Nat} {g : List W → MS} {n : Nat} (hc : X.calm = true) (h : PGsm X es g) (hn : (assignEach es X.env).length = n := by rfl) (hst : (assignEach es X.env).findIdx? (·.1) = none := by rfl) : PGm X (.Tuple es j pos) (gTp n g) :=
  ⟨PG_imp (pg_tup hc h.pg hn hst) fun v σ H Q ⟨ι, e, AH, w, re, s, r, h⟩ => by
    unfold gTp at h
    cases e1 : asT w with
    | none => rw [e1] at h; exact h.elim
    | some ws =>
      rw [e1] at h
      cases asT_eq e1
      obtain ⟨p, vs, ep, t, q⟩ := rw_tup r
      by_cases c : ws.length = n
      · have h : OutS X.K (fun _ _ _ _ => False) ι H ((if ws.length = n then g ws else fun _ _ => none) e AH) { nx := Q, rt := fun _ _ => False } := h
        rw [if_pos c] at h
        exact ⟨p, vs, ep, t, by rw [← q.length]; exact c, ι, e, AH, ws, re, s, q, h⟩
      · have h : OutS X.K (fun _ _ _ _ => False) ι H ((if ws.length = n then g ws else fun _ _ => none) e AH) { nx := Q, rt := fun _ _ => False } := h
        rw [if_neg c] at h; exact h.elim⟩
/-! ### assignments -/
def sAsg (m : ME W) (g : W → MS) : MS := eS m g
theorem OutS.nx {K : PySem.W.Frag} {Wx : WX} {ι : List Addr} {H : Hp} {r : Option (Except AX Fl × Ev × Hv)} {D : Ends} (h : OutS K Wx ι H r D) (hr : ∀ f e h', r = some (f, e, h') → f = .ok .nx) : OutS K (fun _ _ _ _ => False) ι H r { nx := D.nx, rt := fun _ _ => False } := by
  match r, h, hr with
  | some (.ok .nx, e', AH'), h, _ => exact h
  | some (.ok .bk, e', AH'), h, hr => cases hr _ _ _ rfl
  | some (.ok .ct, e', AH'), h, hr => cases hr _ _ _ rfl
  | some (.ok (.rt w), e', AH'), h, hr => cases hr _ _ _ rfl
  | some (.error x, e', AH'), h, hr => cases hr _ _ _ rfl
/-- a target stores and goes on -/
def Stores (g : W → MS) : Prop := ∀ w e h f e' h', g w e h = some (f, e', h') → f = .ok .nx
def StoresL (g : List W → MS) : Prop := ∀ w e h f e' h', g w e h = some (f, e', h') → f = .ok .nx
theorem st_nm {i : Nat} : Stores (gNm i) := fun w e h f e' h' q => by cases q; rfl
theorem st_nil : StoresL gsNil := fun w e h f e' h' q => by
  cases w with
  | nil => cases q; rfl
  | cons _ _ => cases q
theorem st_cons {g : W → MS} {gk : List W → MS} (a : Stores g) (b : StoresL gk) : StoresL (gsCons g gk) := fun w e h f e' h' q => by
  cases w with
  | nil => cases q
  | cons w wr =>
    have q : sSeq (g w) (gk wr) e h = some (f, e', h') := q
    unfold sSeq at q
    cases hm : g w e h with
    | none => rw [hm] at q; cases q
    | some r =>
      obtain ⟨f1, e1, h1⟩ := r
      have := a w e h f1 e1 h1 hm
      subst this
      rw [hm] at q
      exact b wr e1 h1 f e' h' q
theorem st_tp {n : Nat} {g : List W → MS} (a : StoresL g) : Stores (gTp n g) := fun w e h f e' h' q => by
  unfold gTp at q
  cases e1 : asT w with
  | none => rw [e1] at q; cases q
  | some ws =>
    rw [e1] at q
    have q : (if ws.length = n then g ws else fun _ _ => none) e h = some (f, e', h') := q
    by_cases c : ws.length = n
    · rw [if_pos c] at q; exact a ws e h f e' h' q
    · rw [if_neg c] at q; cases q
theorem s_set {i : Nat} {x : Str} {pos' : Pos} (hN : X.N.Nodup) (hi : X.N[i]? = some x) (hx : Loc X.env.scope x) (he : PEm X Wx a ma) (hs : swapsWith a (some (.Name x pos')) pos.line X.env = pure false := by rfl) (hf : X.fn x = true ∨ X.env.scope.names.lookup x = some .local := by first | exact .inl rfl | exact .inr rfl | assumption) :
    PSm X Wx (.Assign [.Name x pos'] a pos) (sAsg ma (gNm i)) :=
  ⟨PS_imp (ps_set hN hi hx he.pe hs hf) fun D σ H q => tS_eS q fun ι1 w AH1 v H1 e re s1 r1 q => q ι1 _ H1 Le.refl s1 (re.set r1)⟩
theorem s_asg {tg : Expr} {g : W → MS} (he : PEm X Wx a ma) (hg : PGm X tg g) (sg : Stores g) (hs : swapsWithSole [tg] a pos.line X.env = pure false := by rfl) (hw : swappedStores [tg] a X.env = pure none := by rfl)
    (h1 : (assignEach [tg] X.env).map (·.2) = [assign tg X.env] := by rfl) : PSm X Wx (.Assign [tg] a pos) (sAsg ma g) :=
  ⟨PS_imp (ps_asg he.pe hg.pg hs hw h1) fun D σ H q => tS_eS q fun ι1 w AH1 v H1 e re s1 r1 q => ⟨ι1, e, AH1, w, re, s1, r1, q.nx (sg w e AH1)⟩⟩
/-- x op= e -/
def sAug (i : Nat) (g : W → W → M W) (m : ME W) : MS := eS (mVar i) fun x => eS m fun y => eS (fun _ => g x y) fun z => gNm i z
/-! ### loops over items -/
noncomputable def ifP {α : Type} (p : Prop) (r : Option α) : Option α := @ite _ p (Classical.propDecidable p) r none
theorem ifP_pos {α : Type} {p : Prop} {r : Option α} (h : p) : ifP p r = r := by unfold ifP; exact if_pos h
noncomputable def loopL (ok : Hv → Prop) (g : W → MS) (mb : MS) : List W → MS
  | [] => fun e h => ifP (ok h) (some (.ok .nx, e, h))
  | w :: r => fun e h => ifP (ok h) (match g w e h with
    | some (.ok .nx, e1, h1) => (match mb e1 h1 with
      | some (.ok .nx, e2, h2) => loopL ok g mb r e2 h2
      | some (.ok .ct, e2, h2) => loopL ok g mb r e2 h2
      | some (.ok .bk, e2, h2) => some (.ok .nx, e2, h2)
      | q => q)
    | _ => none)
theorem outS_ifP {K : PySem.W.Frag} {Wx : WX} {ι : List Addr} {H : Hp} {c : Prop} {r : Option (Except AX Fl × Ev × Hv)} {D : Ends} (h : OutS K Wx ι H (ifP c r) D) : c ∧ OutS K Wx ι H r D := by
  unfold ifP at h
  by_cases e : c
  · rw [if_pos e] at h; exact ⟨e, h⟩
  · rw [if_neg e] at h; exact h.elim
/-- the invariant of a loop over what is left; ι0, H0: where it began -/
def LoopW (K : PySem.W.Frag) (Wx : WX) (D : Ends) (ok : Hv → Prop) (g : W → MS) (mb : MS) (ws : List W) (ι0 : List Addr) (H0 : Hp) (i : Nat) (σ : L2.St) (H : Hp) : Prop :=
  ∃ ι e AH, Le K ι0 H0 ι H ∧ RE K ι H e σ ∧ Sr K ι H AH ∧ OutS K Wx ι H (loopL ok g mb (ws.drop i) e AH) D
section
variable {K : PySem.W.Frag} {D : Ends} {ok : Hv → Prop} {g : W → MS} {mb : MS} {ws : List W} {i : Nat} {w : W} {v : V} {σ : L2.St} {H H0 : Hp} {ι0 : List Addr}
theorem loop_at (h : LoopW K Wx D ok g mb ws ι0 H0 i σ H) : ∃ ι AH, Le K ι0 H0 ι H ∧ Sr K ι H AH ∧ ok AH := by
  obtain ⟨ι, e, AH, l, re, s, h⟩ := h
  cases hd : ws.drop i with
  | nil => rw [hd] at h; unfold loopL at h; exact ⟨ι, AH, l, s, (outS_ifP h).1⟩
  | cons w r => rw [hd] at h; unfold loopL at h; exact ⟨ι, AH, l, s, (outS_ifP h).1⟩
theorem loop_done (h : LoopW K Wx D ok g mb ws ι0 H0 ws.length σ H) : D.nx σ H := by
  obtain ⟨ι, e, AH, l, re, s, h⟩ := h
  rw [List.drop_length] at h
  unfold loopL at h
  exact (outS_ifP h).2 ι σ H Le.refl s re
theorem loop_turn (hi : ws[i]? = some w) (sg : Stores g) (h : LoopW K Wx D ok g mb ws ι0 H0 i σ H) (hv : ∀ ι AH, Le K ι0 H0 ι H → Sr K ι H AH → ok AH → RW K ι H w v) :
    tGt K g v σ H fun σ2 H2 => tS K Wx mb { D with nx := LoopW K Wx D ok g mb ws ι0 H0 (i + 1), ct := LoopW K Wx D ok g mb ws ι0 H0 (i + 1), bk := D.nx } σ2 H2 := by
  obtain ⟨ι, e, AH, l0, re, s, h⟩ := h
  obtain ⟨hl, ew⟩ := List.getElem?_eq_some_iff.mp hi
  have hd : ws.drop i = w :: ws.drop (i + 1) := by rw [← ew]; exact List.drop_eq_getElem_cons hl
  rw [hd] at h
  unfold loopL at h
  obtain ⟨hok, h⟩ := outS_ifP h
  refine ⟨ι, e, AH, w, re, s, hv ι AH l0 s hok, ?_⟩
  cases hg : g w e AH with
  | none => rw [hg] at h; exact h.elim
  | some r =>
    obtain ⟨f1, e1, h1⟩ := r
    have := sg w e AH f1 e1 h1 hg
    subst this
    rw [hg] at h
    intro ι1 σ1 H1 l1 s1 re1
    refine ⟨ι1, e1, h1, re1, s1, ?_⟩
    have h : OutS K Wx ι H (match mb e1 h1 with
      | some (.ok .nx, e2, h2) => loopL ok g mb (ws.drop (i + 1)) e2 h2
      | some (.ok .ct, e2, h2) => loopL ok g mb (ws.drop (i + 1)) e2 h2
      | some (.ok .bk, e2, h2) => some (.ok .nx, e2, h2)
      | q => q) D := h
    match hm : mb e1 h1, h with
    | none, h => exact h
    | some (.ok .nx, e2, h2), h => exact fun ι2 σ2 H2 l2 s2 re2 => ⟨ι2, e2, h2, l0.trans (l1.trans l2), re2, s2, h.le (l1.trans l2)⟩
    | some (.ok .ct, e2, h2), h => exact fun ι2 σ2 H2 l2 s2 re2 => ⟨ι2, e2, h2, l0.trans (l1.trans l2), re2, s2, h.le (l1.trans l2)⟩
    | some (.ok .bk, e2, h2), h => exact h.le l1
    | some (.ok (.rt z), e2, h2), h => exact h.le l1
    | some (.error x, e2, h2), h => exact h.le l1
end
/-- over a list that the body leaves as it is -/
noncomputable def sForL (l : ME W) (g : W → MS) (mb : MS) : MS := eS l fun w => fun e h => match seqL h w with
  | some ws => loopL (fun h' => seqL h' w = some ws) g mb ws e h
  | none => none
theorem s_forL {tg iter : Expr} {ml : ME W} {g : W → MS} {mb : MS} (hp : PassesOwn (model X.prog X.w) X.A X.env X.xe) (hc : X.calm = true) (hi : PEm X Wx iter ml) (hg : PGm X tg g) (sg : Stores g) (hb : PSsm X Wx sts mb)
    (hs : ∀ x, foldedSetIterable iter X.env x = pure x := by intro _; rfl) : PSm X Wx (.For tg iter sts [] pos) (sForL ml g mb) :=
  ⟨PS_imp (ps_for hp hc (pi_list hi.pe) hg.pg hb.ps hs) fun D σ H q => tS_eS q fun ι1 w AH1 v H1 e re s1 r1 q => by
    cases e1 : seqL AH1 w with
    | none => rw [e1] at q; exact q.elim
    | some ws =>
      rw [e1] at q
      have q : OutS X.K Wx ι1 H1 (loopL (fun h' => seqL h' w = some ws) g mb ws e AH1) D := q
      obtain ⟨p, vs, ep, hq, rs⟩ := seqL_ok s1 r1 e1
      subst ep
      refine ⟨p, rfl, ⟨vs, hq⟩, fun i m σ H => m = ws.length - i ∧ i ≤ ws.length ∧ LoopW X.K Wx D (fun h' => seqL h' w = some ws) g mb ws ι1 H1 i σ H, ⟨_, rfl, Nat.zero_le _, ι1, e, AH1, Le.refl, re, s1, by rw [List.drop_zero]; exact q⟩, ?_⟩
      rintro i m σ H ⟨rfl, hi, L⟩
      obtain ⟨ι, AH, l, s, ok⟩ := loop_at L
      obtain ⟨p', xs, ep, hq', rx⟩ := seqL_ok s (RW.mono l _ _ r1) ok
      cases ep
      by_cases hlt : i < ws.length
      · have hx : i < xs.length := by rw [← rx.length]; exact hlt
        refine .inr ⟨⟨xs, xs[i], hq', by simp [hx]⟩, LoopW X.K Wx D (fun h' => seqL h' w = some ws) g mb ws ι1 H1 (i + 1), fun σ' H' L' => ⟨_, by omega, rfl, hlt, L'⟩, fun x H' y => ?_⟩
        obtain ⟨e', y⟩ := y
        subst e'
        refine loop_turn (w := ws[i]) (by simp [hlt]) sg L fun ι2 AH2 l2 s2 ok2 => ?_
        obtain ⟨p2, xs2, ep2, hq2, rx2⟩ := seqL_ok s2 (RW.mono l2 _ _ r1) ok2
        cases ep2
        obtain ⟨z, hz, rz⟩ := rx2.get (i := i) (w := ws[i]) (by simp [hlt])
        have := y xs2 hq2
        rw [hz] at this
        cases this
        exact rz
      · have e' : i = ws.length := by omega
        subst e'
        exact .inl ⟨⟨xs, hq', by rw [← rx.length]; exact Nat.le_refl _⟩, loop_done L⟩⟩
/-- over a tuple -/
noncomputable def sForT (l : ME W) (g : W → MS) (mb : MS) : MS := eS l fun w => fun e h => match asT w with
  | some ws => loopL (fun _ => True) g mb ws e h
  | none => none
theorem s_forT {tg iter : Expr} {ml : ME W} {g : W → MS} {mb : MS} (hp : PassesOwn (model X.prog X.w) X.A X.env X.xe) (hc : X.calm = true) (hi : PEm X Wx iter ml) (hg : PGm X tg g) (sg : Stores g) (hb : PSsm X Wx sts mb)
    (hs : ∀ x, foldedSetIterable iter X.env x = pure x := by intro _; rfl) : PSm X Wx (.For tg iter sts [] pos) (sForT ml g mb) :=
  ⟨PS_imp (ps_for hp hc (pi_tup hi.pe) hg.pg hb.ps hs) fun D σ H q => tS_eS q fun ι1 w AH1 v H1 e re s1 r1 q => by
    cases e1 : asT w with
    | none => rw [e1] at q; exact q.elim
    | some ws =>
      rw [e1] at q
      cases asT_eq e1
      have q : OutS X.K Wx ι1 H1 (loopL (fun _ => True) g mb ws e AH1) D := q
      obtain ⟨p, vs, ep, hq, rs⟩ := rw_tup r1
      subst ep
      refine ⟨p, rfl, ⟨vs, hq⟩, for_tup (K := X.K) (a := p) (xs := vs) (D := D) (fun i σ H => LoopW X.K Wx D (fun _ => True) g mb ws ι1 H1 i σ H) ⟨ι1, e, AH1, Le.refl, re, s1, by rw [List.drop_zero]; exact q⟩ ?_ ?_ ?_⟩
      · intro i σ H _ L
        obtain ⟨ι, AH, l, s, _⟩ := loop_at L
        exact l.tup p vs hq
      · intro i x σ H hx L
        obtain ⟨z, hz, rz⟩ := rs.back hx
        exact loop_turn hz sg L fun ι2 AH2 l2 s2 _ => RW.mono l2 _ _ rz
      · intro σ H L
        rw [← rs.length] at L
        exact loop_done L⟩
/-- over a range -/
def intsFrom (lo : Int) (n : Nat) : List W := (List.range n).map fun i => .int (lo + (i : Nat))
theorem intsFrom_at {lo : Int} {n i : Nat} (h : i < n) : (intsFrom lo n)[i]? = some (.int (lo + (i : Nat))) := by
  unfold intsFrom
  rw [List.getElem?_map, List.getElem?_range h]; rfl
theorem intsFrom_len {lo : Int} {n : Nat} : (intsFrom lo n).length = n := by unfold intsFrom; simp
def asI1 : List W → Option Int
  | [w] => asI w
  | _ => none
def asI2 : List W → Option (Int × Int)
  | [w, u] => match asI w, asI u with
    | some i, some j => some (i, j)
    | _, _ => none
  | _ => none
theorem asI1_eq {ws : List W} {i : Int} (h : asI1 ws = some i) : ws = [.int i] := by
  cases ws with
  | nil => cases h
  | cons w r =>
    cases r with
    | nil => rw [asI_eq (show asI w = some i from h)]
    | cons _ _ => cases h
theorem asI2_eq {ws : List W} {i j : Int} (h : asI2 ws = some (i, j)) : ws = [.int i, .int j] := by
  cases ws with
  | nil => cases h
  | cons w r =>
    cases r with
    | nil => cases h
    | cons u r =>
      cases r with
      | nil =>
        cases e1 : asI w with
        | none => simp [asI2, e1] at h
        | some x =>
          cases e2 : asI u with
          | none => simp [asI2, e1, e2] at h
          | some y =>
            simp [asI2, e1, e2] at h
            rw [asI_eq e1, asI_eq e2, h.1, h.2]
      | cons _ _ => cases h
noncomputable def sForR (l : ME (List W)) (g : W → MS) (mb : MS) : MS := eS l fun ws => fun e h => match asI1 ws with
  | some j => ifP (-(2 ^ 62) ≤ j ∧ j < 2 ^ 62) (loopL (fun _ => True) g mb (intsFrom 0 j.toNat) e h)
  | none => none
noncomputable def sForR2 (l : ME (List W)) (g : W → MS) (mb : MS) : MS := eS l fun ws => fun e h => match asI2 ws with
  | some (i, j) => ifP (-(2 ^ 62) ≤ i ∧ i < 2 ^ 62 ∧ -(2 ^ 62) ≤ j ∧ j < 2 ^ 62) (loopL (fun _ => True) g mb (intsFrom i (j - i).toNat) e h)
  | none => none
theorem range_loop {D : Ends} {g : W → MS} {mb : MS} {K : PySem.W.Frag} {ι : List Addr} {H : Hp} {e : Ev} {σ : L2.St} {AH : Hv} {lo : Int} {n : Nat} (sg : Stores g) (re : RE K ι H e σ) (s : Sr K ι H AH) (q : OutS K Wx ι H (loopL (fun _ => True) g mb (intsFrom lo n) e AH) D) :
    ∃ W : Nat → Nat → L2.St → Hp → Prop, (∃ m, W 0 m σ H) ∧ ∀ i m σ H, W i m σ H →
      ((Itr lo n).stop i H ∧ D.nx σ H) ∨ ((Itr lo n).go i H ∧ ∃ N : L2.St → Hp → Prop, (∀ σ' H', N σ' H' → ∃ m', m' < m ∧ W (i + 1) m' σ' H') ∧ ∀ x H', (Itr lo n).yld i H x H' → tGt K g x σ H' fun σ2 H2 => tS K Wx mb { D with nx := N, ct := N, bk := D.nx } σ2 H2) := by
  refine for_range (fun i σ H' => LoopW K Wx D (fun _ => True) g mb (intsFrom lo n) ι H i σ H') ⟨ι, e, AH, Le.refl, re, s, by rw [List.drop_zero]; exact q⟩ (fun i σ H hi L => ?_) fun σ H' L => ?_
  · exact loop_turn (intsFrom_at hi) sg L fun _ _ _ _ _ => (show V.int _ = _ from rfl)
  · exact loop_done (ws := intsFrom lo n) (by rw [intsFrom_len]; exact L)
theorem s_forR1 {tg : Expr} {ml : ME (List W)} {g : W → MS} {mb : MS} {p pos' : Pos} (hp : PassesOwn (model X.prog X.w) X.A X.env X.xe) (hc : X.calm = true) (hG : Gl X "range") (hm : X.mg "range" = none) (hi : PAm X Wx [a] ml) (hg : PGm X tg g) (sg : Stores g) (hb : PSsm X Wx sts mb)
    (hse : starEach [a] X.env = [(false, eval a X.env)] := by rfl) (hs : ∀ x, foldedSetIterable (.Call (.Name "range" p) [a] [] pos') X.env x = pure x := by intro _; rfl) : PSm X Wx (.For tg (.Call (.Name "range" p) [a] [] pos') sts [] pos) (sForR ml g mb) :=
  ⟨PS_imp (ps_for hp hc (pi_range1 hG hm hi.pa hse) hg.pg hb.ps hs) fun D σ H q => tS_eS q fun ι1 ws AH1 vs H1 e re s1 r1 q => by
    cases e1 : asI1 ws with
    | none => rw [e1] at q; exact q.elim
    | some j =>
      rw [e1] at q
      have q : OutS X.K Wx ι1 H1 (ifP (-(2 ^ 62) ≤ j ∧ j < 2 ^ 62) (loopL (fun _ => True) g mb (intsFrom 0 j.toNat) e AH1)) D := q
      have ew := asI1_eq e1
      subst ew
      obtain ⟨v, ev, rv⟩ := rws_one r1
      obtain ⟨⟨c1, c2⟩, q⟩ := outS_ifP q
      exact ⟨j, by rw [ev, rw_int rv], c1, c2, range_loop sg re s1 q⟩⟩
theorem s_forR2 {tg : Expr} {ml : ME (List W)} {g : W → MS} {mb : MS} {p pos' : Pos} (hp : PassesOwn (model X.prog X.w) X.A X.env X.xe) (hc : X.calm = true) (hG : Gl X "range") (hm : X.mg "range" = none) (hi : PAm X Wx [a, b] ml) (hg : PGm X tg g) (sg : Stores g) (hb : PSsm X Wx sts mb)
    (hse : starEach [a, b] X.env = [(false, eval a X.env), (false, eval b X.env)] := by rfl) (hse2 : starEach [b] X.env = [(false, eval b X.env)] := by rfl) (hs : ∀ x, foldedSetIterable (.Call (.Name "range" p) [a, b] [] pos') X.env x = pure x := by intro _; rfl) : PSm X Wx (.For tg (.Call (.Name "range" p) [a, b] [] pos') sts [] pos) (sForR2 ml g mb) :=
  ⟨PS_imp (ps_for hp hc (pi_range2 hG hm hi.pa hse hse2) hg.pg hb.ps hs) fun D σ H q => tS_eS q fun ι1 ws AH1 vs H1 e re s1 r1 q => by
    cases e1 : asI2 ws with
    | none => rw [e1] at q; exact q.elim
    | some ij =>
      obtain ⟨i, j⟩ := ij
      rw [e1] at q
      have q : OutS X.K Wx ι1 H1 (ifP (-(2 ^ 62) ≤ i ∧ i < 2 ^ 62 ∧ -(2 ^ 62) ≤ j ∧ j < 2 ^ 62) (loopL (fun _ => True) g mb (intsFrom i (j - i).toNat) e AH1)) D := q
      have ew := asI2_eq e1
      subst ew
      obtain ⟨v, v', ev, rv, rv'⟩ := rws_two r1
      obtain ⟨cs, q⟩ := outS_ifP q
      exact ⟨i, j, by rw [ev, rw_int rv, rw_int rv'], cs, range_loop sg re s1 q⟩⟩
end
end Z
namespace Z
open PySem PySem.Spec PyProof.Rows L2
/-! ### what a def promises; nothing is being shown (repr) meanwhile -/
structure FnG (P : Program) (w : World) (K : PySem.W.Frag) (mg : Str → Option Value) (base : Heap) (k : Nat) (f : Addr) (fd : FuncData) (ps : List Str) (sp : Sp) : Prop where
  few : ∀ vs H Q E, sp vs H Q E → vs.length = ps.length
  go : ∀ (A : Around) (outer : List Env) (s : Shared) (H : Hp) (args : Args) (us : List Value) (vs : List V) (Q : VK) (E : XK), Room k A → A.guards = some [] → Env0 P w K mg base A outer s H →
    BindsTo s fd args (ps.zip us) → Vals vs us → sp vs H Q E → codeAny (model P w) A (.call (.ref f) args) (CR (L2N.CX P w) outer P w H s Q E) s
section
variable {P : Program} {w : World} {K : PySem.W.Frag} {mg : Str → Option Value} {base : Heap} {k : Nat} {f : Addr} {fd : FuncData} {ps N : List Str} {sp : Sp}
theorem FnG.up {j : Nat} (F : FnG P w K mg base j f fd ps sp) (h : j ≤ k) : FnG P w K mg base k f fd ps sp :=
  ⟨F.few, fun A outer s H args us vs Q E hr => F.go A outer s H args us vs Q E (hr.mono h)⟩
theorem guards_deep (A : Around) (e : Env) : (A.deeper e).guards = A.guards := rfl
/-- a def by its body -/
theorem fnG_of {x qual : Str} {params : Arguments} {body : List Stmt} {scope : Scope} {dvs : List V} {kws : List (Str × V)} (F : FunD K x qual params body scope dvs kws f fd) (S : FnScope N ps scope)
    (few : ∀ vs H Q E, sp vs H Q E → vs.length = ps.length)
    (hb : ∀ (cdv : Value) (A : Around) (outer : List Env) (s : Shared) (H : Hp) (vs : List V) (Q : VK) (E : XK), Room k (A.deeper (envOfC qual scope s.heap.objs.size f cdv)) → A.guards = some [] → sp vs H Q E →
      ∃ t, PSs (cxOf (L2N.CX P w) P w K mg base N qual scope f cdv A outer s H E) body t ∧ t { nx := fun _ H' => Q .non H', rt := Q } (L2.start N vs) H) : FnG P w K mg base (k + 1) f fd ps sp := by
  obtain ⟨oc, od, dV, kV, doc, pm, an, cd, ct, osl, rfl, lk, hcd, _, _⟩ := F.ex
  refine ⟨few, fun A outer s H args us vs Q E room hgd e0 bind rel want => ?_⟩
  have kx : K.In s.heap := e0.mod.kin.keeps fun b o e => (e0.bs b o e).1
  have nolim : s.heap.NoLimit := e0.mod.nolimit.keeps fun b o e => (e0.bs b o e).1
  have kinds : ∀ y ∈ ps.zip us, scope.names.lookup y.1 = some .local ∨ (scope.names.lookup y.1 = some .cell ∧ ((cellsFrom (s.heap.objs.size + 1) scope.names []).lookup y.1).isSome = true) := by
    rintro ⟨n, v⟩ hy
    exact (S.par n (List.of_mem_zip hy).1).elim .inl fun q => .inr ⟨q, PySem.W.cellsFrom_some _ _ _ (.inl q)⟩
  refine codeAny_call_function room.depth (kx _ _ lk) rfl S.co S.gen rfl (PySem.W.codeRec_of kx hcd) (bind _ _ _ _ ?_)
  refine wpAny_newFunctionEnv_cells S.kind kinds fun env hen s1 z => ?_
  subst hen
  refine ⟨nolim.keeps z.toInCall.keep, codeAny_func ?_⟩
  obtain ⟨t, ht, hq⟩ := hb cd A outer s H vs Q E (room.deeper _) hgd want
  have inv : Inv (cxOf (L2N.CX P w) P w K mg base N qual scope f cd A outer s H E) [] (L2.start N vs) H s1 := inv_start S room.hd e0 (few _ _ _ _ want) rel z
  refine wpAny_mono (ht.run [] s1 (L2.start N vs) H _ inv hq) (fun fl s' done => ?_) fun e s' done => done
  cases fl with
  | ret u => obtain ⟨v, σ', H', J, rv, q⟩ := done; exact ⟨v, H', J.os, J.bare, J.base, J.hok, rv, q⟩
  | next => obtain ⟨σ', H', J, q⟩ := done; exact ⟨V.non, H', J.os, J.bare, J.base, J.hok, rfl, q⟩
  | brk => obtain ⟨_, _, _, q⟩ := done; exact q.elim
  | cont => obtain ⟨_, _, _, q⟩ := done; exact q.elim
end
section
variable {X : Cx} {Wx : WX} {k : Nat} {f C : Addr} {fd : FuncData} {ps : List Str} {sp : Sp} {pins : List (Addr × Obj)} {σ : L2.St} {H : Hp} {s : Shared} {Q : VK}
/-- the callee runs; its exception reaches the wish at the caller's slots -/
theorem run_G (F : FnG X.prog X.w X.K X.mg X.base k f fd ps sp) (hr : Room k X.A) (hg : X.A.guards = some []) (tk : L2N.Takes X Wx) (I : Inv X pins σ H s) {args : Args} {us : List Value} {vs : List V} (b : BindsTo s fd args (ps.zip us)) (r : Vals vs us) (h : sp vs H Q (WE Wx σ)) :
    codeAny (model X.prog X.w) X.A (.call (.ref f) args) (fun r s' => match r with
      | .ok (.ret u) => EP X pins σ Q u s'
      | .ok _ => False
      | .error e => X.xe e s') s := by
  refine codeAny_mono (F.go X.A X.stack s H args us vs Q (WE Wx σ) hr hg I.env0 b r h) fun r s' q => ?_
  cases r with
  | error e => exact L2N.passAt tk σ pins H s e s' I q
  | ok fl =>
    cases fl with
    | ret u => exact I.after q
    | _ => exact q
theorem call_G (F : FnG X.prog X.w X.K X.mg X.base k f fd ps sp) (hr : Room k X.A) (hg : X.A.guards = some []) (tk : L2N.Takes X Wx) (I : Inv X pins σ H s) {us us2 : List Value} {kw : List (Str × Value)} {vs : List V} (b : BindsTo s fd ⟨us, kw⟩ (ps.zip us2)) (r : Vals vs us2) (h : sp vs H Q (WE Wx σ)) :
    wpAny (model X.prog X.w) X.A (call (.ref f) us kw) (EP X pins σ Q) X.xe s := by
  refine wpAny_call (codeAny_mono (run_G F hr hg tk I b r h) fun r s' q => ?_)
  cases r with
  | error e => exact q
  | ok fl => cases fl <;> first | exact q | exact q.elim
end
/-! ### defs by functions of values -/
def spM (K : PySem.W.Frag) (n : Nat) (F : List W → M W) : Sp := fun vs H Q E => vs.length = n ∧ ∃ ι ws AH, RWs K ι H ws vs ∧ Sr K ι H AH ∧ Out K (RW K) (fun x d H' => E x.cls d H') ι H (F ws AH) Q
abbrev FM (P : Program) (w : World) (K : PySem.W.Frag) (mg : Str → Option Value) (base : Heap) (k : Nat) (f : Addr) (fd : FuncData) (ps : List Str) (F : List W → M W) : Prop := FnG P w K mg base k f fd ps (spM K ps.length F)
/-- a body's answer as a def's -/
def runB (n : Nat) (m : MS) (ws : List W) : M W := fun h => match m (ws.map some ++ List.replicate (n - ws.length) none) h with
  | some (.ok (.rt w), _, h') => some (.ok w, h')
  | some (.ok .nx, _, h') => some (.ok .non, h')
  | some (.error x, _, h') => some (.error x, h')
  | _ => none
theorem start_re {K : PySem.W.Frag} {ι : List Addr} {H : Hp} {N : List Str} {ws : List W} {vs : List V} (r : RWs K ι H ws vs) : RE K ι H (ws.map some ++ List.replicate (N.length - ws.length) none) (L2.start N vs) := by
  unfold L2.start
  refine ⟨by simp [r.length], fun i w q => ?_⟩
  by_cases hi : i < ws.length
  · rw [List.getElem?_append_left (by simpa using hi), List.getElem?_map] at q
    cases e : ws[i]? with
    | none => rw [e] at q; cases q
    | some u =>
      rw [e] at q
      cases q
      obtain ⟨v, hv, rv⟩ := r.get e
      have hl : i < vs.length := by rw [← r.length]; exact hi
      exact ⟨v, by rw [List.getElem?_append_left (by simpa using hl), List.getElem?_map, hv]; rfl, rv⟩
  · rw [List.getElem?_append_right (by simpa using hi), List.getElem?_replicate] at q
    split at q <;> cases q
theorem fm_of {P : Program} {w : World} {K : PySem.W.Frag} {mg : Str → Option Value} {base : Heap} {k : Nat} {f : Addr} {fd : FuncData} {ps N : List Str} {m : MS} {x qual : Str} {params : Arguments} {body : List Stmt} {scope : Scope} {dvs : List V} {kws : List (Str × V)}
    (F : FunD K x qual params body scope dvs kws f fd) (S : FnScope N ps scope)
    (hb : ∀ (cdv : Value) (A : Around) (outer : List Env) (s : Shared) (H : Hp) (E : XK), Room k (A.deeper (envOfC qual scope s.heap.objs.size f cdv)) → A.guards = some [] →
      PSsm (cxOf (L2N.CX P w) P w K mg base N qual scope f cdv A outer s H E) (fun cls d _ H' => E cls d H') body m) : FM P w K mg base (k + 1) f fd ps (runB N.length m) := by
  refine fnG_of F S (fun vs H Q E h => h.1) fun cdv A outer s H vs Q E hr hg h => ⟨_, (hb cdv A outer s H E hr hg).ps, ?_⟩
  obtain ⟨hl, ι, ws, AH, r, sr, h⟩ := h
  refine ⟨ι, _, AH, start_re r, sr, ?_⟩
  unfold runB at h
  match hm : m (ws.map some ++ List.replicate (N.length - ws.length) none) AH, h with
  | some (.ok (.rt u), e', h'), h => exact h
  | some (.ok .nx, e', h'), h => exact fun ι' σ' H' l s' _ => h ι' .non H' l s' (show V.non = .non from rfl)
  | some (.error y, e', h'), h => exact fun ι' σ' d H' l s' _ xr => h ι' d H' l s' xr
/-- another function that says no more -/
theorem FM.as {P : Program} {w : World} {K : PySem.W.Frag} {mg : Str → Option Value} {base : Heap} {k : Nat} {f : Addr} {fd : FuncData} {ps : List Str} {F F' : List W → M W} (h : FM P w K mg base k f fd ps F) (e : ∀ ws h r, ws.length = ps.length → F' ws h = some r → F ws h = some r) : FM P w K mg base k f fd ps F' := by
  refine ⟨fun vs H Q E h => h.1, fun A outer s H args us vs Q E hr hg e0 b r q => h.go A outer s H args us vs Q E hr hg e0 b r ?_⟩
  obtain ⟨hl, ι, ws, AH, rw, sr, o⟩ := q
  refine ⟨hl, ι, ws, AH, rw, sr, ?_⟩
  cases hf : F' ws AH with
  | none => rw [hf] at o; exact o.elim
  | some z => rw [hf] at o; rw [e ws AH z (by rw [rw.length]; exact hl) hf]; exact o
/-! ### calls -/
def mF (n : Nat) (F : List W → M W) (m : ME (List W)) : ME W := bE m fun ws => fun _ h => if ws.length = n then F ws h else none
/-- an instance of C at which the name mn is no attribute -/
def isC (C : Addr) (mn : Str) (w : W) : M Unit := fun h => match w with
  | .ref j => (match h[j]? with
    | some (.ins D fs) => if D = C ∧ mn ∉ fs.map (·.1) then some (.ok (), h) else none
    | _ => none)
  | _ => none
def mMe (C : Addr) (mn : Str) (n : Nat) (F : List W → M W) (mo : ME W) (m : ME (List W)) : ME W := bE mo fun x => bE (fun _ => isC C mn x) fun _ => bE m fun ws => fun _ h => if ws.length + 1 = n then F (x :: ws) h else none
section
variable {X : Cx} {Wx : WX} {k n : Nat} {f C : Addr} {fd : FuncData} {ps : List Str} {F : List W → M W} {p pos apos : Pos} {e o : Expr} {es : List Expr} {x mn : Str} {ma : ME (List W)} {mo : ME W}
theorem m_call (G : FM X.prog X.w X.K X.mg X.base k f fd ps F) (hr : Room k X.A) (hG : X.A.guards = some []) (tk : L2N.Takes X Wx) (hg : Gl X x) (hm : X.mg x = some (.ref f)) (hk : PySem.W.keepIn X.K (.ref f) = true) (hb : Binds X.K fd ps [])
    (ha : PAm X Wx (e :: es) ma) (hdb : (x == ("__debug__" : Str)) = false := by decide) (he : starEach (e :: es) X.env = (false, eval e X.env) :: starEach es X.env := by rfl) (hpl : (backTo pos (starEach es X.env)).any (·.1) = false := by rfl)  (hn : ps.length = n := by rfl) :
    PEm X Wx (.Call (.Name x p) (e :: es) [] pos) (mF n F ma) := by
  subst hn
  refine ⟨⟨fun pins s σ H Q I h => ?_⟩⟩
  refine wpAny_Call_Name_kw (ld_glob I hg hm ?_ hdb)
  refine PySem.W.callWith_K (h₀ := X.base) I.ok.mod.kin hk (thn (ha.pa.run pos pins s σ H _ I (tG_bnd (Q' := fun vs H1 => spM X.K ps.length F vs H1 Q (WE Wx σ)) h fun ι1 ws AH1 vs H1 e re s1 r1 q => ?_)) fun us s1 z => ?_) he hpl
  · obtain ⟨c, q⟩ := out_ite q
    exact ⟨by rw [← r1.length]; exact c, ι1, ws, AH1, r1, s1, q⟩
  · obtain ⟨vs, H1, I1, r, q⟩ := z
    refine ⟨I1.kIn, call_G G hr hG tk I1 (us2 := us) ?_ r q⟩
    have b := hb s1 us I1.kIn (by rw [List.append_nil, ← r.length]; exact q.1)
    rw [List.append_nil] at b
    exact b
theorem isC_ok {h : Hv} {C : Addr} {mn : Str} {w : W} {r : Except AX Unit × Hv} (e : isC C mn w h = some r) : r = (.ok (), h) ∧ ∃ n fs, w = .ref n ∧ h[n]? = some (.ins C fs) ∧ mn ∉ fs.map (·.1) := by
  unfold isC at e
  cases w with
  | ref j =>
    cases ho : h[j]? with
    | none => simp only [ho] at e; cases e
    | some ob =>
      cases ob with
      | ins D fs =>
        simp only [ho] at e
        by_cases c : D = C ∧ mn ∉ fs.map (·.1)
        · rw [if_pos c] at e
          obtain ⟨rfl, c2⟩ := c
          cases e
          exact ⟨rfl, j, fs, rfl, ho, c2⟩
        · rw [if_neg c] at e; cases e
      | _ => simp only [ho] at e; cases e
  | _ => cases e
theorem lookup_none_of {κ α : Type} [BEq κ] [LawfulBEq κ] {a : κ} : ∀ {l : List (κ × α)}, a ∉ l.map (·.1) → l.lookup a = none
  | [], _ => rfl
  | (b, v) :: l, h => by
    have h1 : a ≠ b := fun e => h (by rw [e]; simp)
    have h2 : a ∉ l.map (·.1) := fun e => h (by simp only [List.map_cons, List.mem_cons]; exact .inr e)
    rw [List.lookup_cons, show (a == b) = false from beq_eq_false_iff_ne.mpr h1]
    exact lookup_none_of h2
/-- what stands there for a method's call -/
theorem isC_at {K : PySem.W.Frag} {ι : List Addr} {H : Hp} {AH : Hv} {Xx : AX → Option Addr → Hp → Prop} {w : W} {v : V} {C : Addr} {mn : Str} {γ δ : Type} {R : List Addr → Hp → γ → δ → Prop} {kk : Unit → M γ} {Q : δ → Hp → Prop} (s : Sr K ι H AH) (r : RW K ι H w v)
    (h : Out K R Xx ι H (Z.bnd (isC C mn w) kk AH) Q) : ∃ a dx vs, v = .ref a ∧ H a = some (.ins C dx vs) ∧ vs.lookup mn = none ∧ Out K R Xx ι H (kk () AH) Q := by
  cases e : isC C mn w AH with
  | none => simp only [Z.bnd, e] at h; exact h.elim
  | some z =>
    obtain ⟨rfl, n, fs, rfl, ho, nm⟩ := isC_ok e
    simp only [Z.bnd, e] at h
    obtain ⟨a, ha, ev⟩ := rw_ref r
    obtain ⟨dx, vs, e2, rp⟩ := s.at ha ho
    exact ⟨a, dx, vs, ev, e2, lookup_none_of (by rw [← rp.1]; exact nm), h⟩
abbrev CallTree (X : Cx) (o : Expr) (mn : Str) (apos pos : Pos) (es : List Expr) (kws : List Keyword) (pl : Sem Bool) : Prop := eval (.Call (.Attribute o mn apos) es kws pos) X.env = (do
      let ov ← eval o X.env
      standAt apos.atName
      let (f, first) ← holding [ov] (getMethod ov mn pl)
      callWith pos f first (backTo pos (starEach es X.env)) (backToKw pos (keywordEach kws X.env)))
theorem m_meth {pl : Sem Bool} (G : FM X.prog X.w X.K X.mg X.base k f fd ps F) (hr : Room k X.A) (hG : X.A.guards = some []) (tk : L2N.Takes X Wx) (c : Cls X.K C) (hm : Meth X.K C mn f) (hb : Binds X.K fd ps []) (ho : PEm X Wx o mo)
    (ha : PAm X Wx (e :: es) ma) (he : starEach (e :: es) X.env = (false, eval e X.env) :: starEach es X.env := by rfl) (hpl : (backTo pos (starEach es X.env)).any (·.1) = false := by rfl)
    (ht : CallTree X o mn apos pos (e :: es) [] pl := by rfl) (hn : ps.length = n := by rfl) : PEm X Wx (.Call (.Attribute o mn apos) (e :: es) [] pos) (mMe C mn n F mo ma) := by
  subst hn
  refine ⟨⟨fun pins s σ H Q I h => ?_⟩⟩
  refine PySem.W.methodCall_KW (pl := pl) (thn (ho.pe.run pins s σ H _ I (tG_bnd (Q' := fun x H1 => ∃ a dx vs, x = .ref a ∧ H1 a = some (.ins C dx vs) ∧ vs.lookup mn = none ∧ tA X.K Wx ma σ H1 fun us H2 => spM X.K ps.length F (.ref a :: us) H2 Q (WE Wx σ)) h fun ι1 w AH1 v H1 e re s1 r1 q => ?_)) fun u s1 z => ?_) ht
  · obtain ⟨a, dx, vs, ev, e2, l, q⟩ := isC_at s1 r1 q
    obtain q := Out.bnd (R := RWs X.K) q
    refine ⟨a, dx, vs, ev, e2, l, ι1, e, AH1, re, s1, q.imp fun us H2 ⟨ι2, ws, AH2, l2, s2, r2, q2⟩ => ?_⟩
    obtain ⟨c, q2⟩ := out_ite q2
    exact ⟨by rw [List.length_cons, ← r2.length]; exact c, ι2, w :: ws, AH2, RWs.mk (ev ▸ RW.mono l2 _ _ r1) r2, s2, q2⟩
  · obtain ⟨x, H1, I1, rx, a, dx, vs, ev, e2, l, q⟩ := z
    subst ev
    obtain rfl : u = Value.ref a := rx
    refine getmeth_ok I1 e2 c hm l ?_
    refine PySem.W.callWith_K (first := [.ref a]) (h₀ := X.base) I.ok.mod.kin hm.kp (thn (ha.pa.run pos pins s1 σ H1 _ I1 q) fun us s2 z2 => ?_) he hpl
    obtain ⟨us', H2, I2, r, q2⟩ := z2
    have r' : Vals (V.ref a :: us') (Value.ref a :: us) := .cons rfl r
    refine ⟨I2.kIn, call_G G hr hG tk I2 (us2 := .ref a :: us) ?_ r' q2⟩
    have b := hb s2 (.ref a :: us) I2.kIn (by rw [List.append_nil, ← r'.length]; exact q2.1)
    rw [List.append_nil] at b
    exact b
theorem m_meth0 {pl : Sem Bool} (G : FM X.prog X.w X.K X.mg X.base k f fd ps F) (hr : Room k X.A) (hG : X.A.guards = some []) (tk : L2N.Takes X Wx) (c : Cls X.K C) (hm : Meth X.K C mn f) (hb : Binds X.K fd ps []) (ho : PEm X Wx o mo)
    (ht : CallTree X o mn apos pos [] [] pl := by rfl) (hn : ps.length = n := by rfl) : PEm X Wx (.Call (.Attribute o mn apos) [] [] pos) (mMe C mn n F mo mNil) := by
  subst hn
  refine ⟨⟨fun pins s σ H Q I h => ?_⟩⟩
  refine PySem.W.methodCall_KW (pl := pl) (thn (ho.pe.run pins s σ H _ I (tG_bnd (Q' := fun x H1 => ∃ a dx vs, x = .ref a ∧ H1 a = some (.ins C dx vs) ∧ vs.lookup mn = none ∧ spM X.K ps.length F [.ref a] H1 Q (WE Wx σ)) h fun ι1 w AH1 v H1 e re s1 r1 q => ?_)) fun u s1 z => ?_) ht
  · obtain ⟨a, dx, vs, ev, e2, l, q⟩ := isC_at s1 r1 q
    have q : Out X.K (RW X.K) (wx Wx σ) ι1 H1 (if ([] : List W).length + 1 = ps.length then F [w] AH1 else none) Q := q
    obtain ⟨c, q⟩ := out_ite q
    exact ⟨a, dx, vs, ev, e2, l, c, ι1, [w], AH1, RWs.mk (ev ▸ r1) RWs.nl, s1, q⟩
  · obtain ⟨x, H1, I1, rx, a, dx, vs, ev, e2, l, q⟩ := z
    subst ev
    obtain rfl : u = Value.ref a := rx
    refine getmeth_ok I1 e2 c hm l ?_
    have r' : Vals [V.ref a] [Value.ref a] := .cons rfl .nil
    refine PySem.W.callWith_K0 (first := [.ref a]) I1.kIn hm.kp (call_G G hr hG tk I1 (us2 := [.ref a]) ?_ r' q)
    have b := hb s1 [.ref a] I1.kIn (by rw [List.append_nil]; exact q.1)
    rw [List.append_nil] at b
    exact b
/-! ### built-ins -/
def CallM (X : Cx) (f : Value) (g : List W → M W) : Prop := ∃ r, CallR X f r ∧ KeepsL X r g
def mG (g : List W → M W) (m : ME (List W)) : ME W := bE m fun ws => fun _ => g ws
theorem m_blt {id : String} {g : List W → M W} (hc : CallM X (.builtin id) g) (hg : Gl X x) (hm : X.mg x = none) (hv : bootBuiltins x = some (.builtin id)) (ha : PAm X Wx (e :: es) ma) (hn : x ≠ "__name__" := by decide) (hdb : (x == ("__debug__" : Str)) = false := by decide)
    (he : starEach (e :: es) X.env = (false, eval e X.env) :: starEach es X.env := by rfl) (hpl : (backTo pos (starEach es X.env)).any (·.1) = false := by rfl) : PEm X Wx (.Call (.Name x p) (e :: es) [] pos) (mG g ma) := by
  obtain ⟨r, hc, k⟩ := hc
  exact .imp (pe_callB hc hg hm hv ha.pa hn hdb he hpl) fun σ H Q h => tG_bnd h fun ι1 ws AH1 vs H1 e re s1 r1 q => k _ ι1 AH1 H1 ws vs Q s1 r1 q
theorem m_bty {T : String} {g : List W → M W} (hc : CallM X (.type T) g) (hg : Gl X x) (hm : X.mg x = none) (hv : bootBuiltins x = some (.type T)) (ha : PAm X Wx (e :: es) ma) (hn : x ≠ "__name__" := by decide) (hdb : (x == ("__debug__" : Str)) = false := by decide)
    (he : starEach (e :: es) X.env = (false, eval e X.env) :: starEach es X.env := by rfl) (hpl : (backTo pos (starEach es X.env)).any (·.1) = false := by rfl) : PEm X Wx (.Call (.Name x p) (e :: es) [] pos) (mG g ma) := by
  obtain ⟨r, hc, k⟩ := hc
  exact .imp (pe_callTy hc hg hm hv ha.pa hn hdb he hpl) fun σ H Q h => tG_bnd h fun ι1 ws AH1 vs H1 e re s1 r1 q => k _ ι1 AH1 H1 ws vs Q s1 r1 q
end
end Z
namespace Z
open PySem L2
def one (f : W → M W) : List W → M W
  | [w] => f w
  | _ => stuck
def two (f : W → W → M W) : List W → M W
  | [w, u] => f w u
  | _ => stuck
section
variable {X : Cx}
theorem one_ok {r : List V → Hp → VK → Prop} {f : W → M W} (h : ∀ (Xx : AX → Option Addr → Hp → Prop) (ι : List Addr) (AH : Hv) (H : Hp) (w : W) (v : V) (Q : VK), Sr X.K ι H AH → RW X.K ι H w v → Out X.K (RW X.K) Xx ι H (f w AH) Q → r [v] H Q) : KeepsL X r (one f) := by
  intro Xx ι AH H ws vs Q s rs o
  cases ws with
  | nil => exact o.elim
  | cons w t =>
    cases t with
    | nil =>
      obtain ⟨v, rfl, rv⟩ := rws_one rs
      exact h Xx ι AH H w v Q s rv o
    | cons _ _ => exact o.elim
theorem two_ok {r : List V → Hp → VK → Prop} {f : W → W → M W} (h : ∀ (Xx : AX → Option Addr → Hp → Prop) (ι : List Addr) (AH : Hv) (H : Hp) (w u : W) (v v' : V) (Q : VK), Sr X.K ι H AH → RW X.K ι H w v → RW X.K ι H u v' → Out X.K (RW X.K) Xx ι H (f w u AH) Q → r [v, v'] H Q) : KeepsL X r (two f) := by
  intro Xx ι AH H ws vs Q s rs o
  cases ws with
  | nil => exact o.elim
  | cons w t =>
    cases t with
    | nil => exact o.elim
    | cons u t =>
      cases t with
      | nil =>
        obtain ⟨v, v', rfl, rv, rv'⟩ := rws_two rs
        exact h Xx ι AH H w u v v' Q s rv rv' o
      | cons _ _ => exact o.elim
theorem CallM.or {f : Value} {g g1 g2 : List W → M W} (h1 : CallM X f g1) (h2 : CallM X f g2) (c : ∀ ws h, g ws h = g1 ws h ∨ g ws h = g2 ws h) : CallM X f g := by
  obtain ⟨r1, o1, k1⟩ := h1
  obtain ⟨r2, o2, k2⟩ := h2
  refine ⟨_, CallR.or o1 o2, fun Xx ι AH H ws vs Q s a h => ?_⟩
  rcases c ws AH with e | e
  · exact .inl (k1 Xx ι AH H ws vs Q s a (e ▸ h))
  · exact .inr (k2 Xx ι AH H ws vs Q s a (e ▸ h))
/-! ### abs, max, min -/
def absM : List W → M W := one fun w h => match asI w with
  | some i => some (.ok (.int (if i < 0 then -i else i)), h)
  | none => none
theorem c_abs : CallM X (.builtin "abs") absM := ⟨_, call_abs, one_ok fun Xx ι AH H w v Q s r o => by
  cases e : asI w with
  | none => rw [e] at o; exact o.elim
  | some i =>
    rw [e] at o
    cases asI_eq e
    exact ⟨i, by rw [rw_int r], o ι _ H Le.refl s rfl⟩⟩
theorem gI_ok {K : PySem.W.Frag} {C : Int → Int → Prop} [∀ i j, Decidable (C i j)] {f : Int → Int → W} {Xx : AX → Option Addr → Hp → Prop} {ι : List Addr} {AH : Hv} {H : Hp} {w u : W} {Q : VK} (o : Out K (RW K) Xx ι H (gI C f w u AH) Q) : ∃ i j, w = .int i ∧ u = .int j ∧ C i j ∧ Out K (RW K) Xx ι H (some (.ok (f i j), AH)) Q := by
  unfold gI at o
  cases e1 : asI w with
  | none => rw [e1] at o; exact o.elim
  | some i =>
    cases e2 : asI u with
    | none => rw [e1, e2] at o; exact o.elim
    | some j =>
      rw [e1, e2] at o
      obtain ⟨c, o⟩ := out_ite o
      exact ⟨i, j, asI_eq e1, asI_eq e2, c, o⟩
def max2M : List W → M W := two (gI (fun _ _ => True) fun i j => .int (if j > i then j else i))
theorem c_max2 (hc : X.calm = true) : CallM X (.builtin "max") max2M := ⟨_, call_max2 hc, two_ok fun Xx ι AH H w u v v' Q s r r' o => by
  obtain ⟨i, j, rfl, rfl, _, o⟩ := gI_ok o
  exact ⟨i, j, by rw [rw_int r, rw_int r'], o ι _ H Le.refl s rfl⟩⟩
def min2M : List W → M W := two (gI (fun _ _ => True) fun i j => .int (if j < i then j else i))
theorem c_min2 (hc : X.calm = true) : CallM X (.builtin "min") min2M := ⟨_, call_min2 hc, two_ok fun Xx ι AH H w u v v' Q s r r' o => by
  obtain ⟨i, j, rfl, rfl, _, o⟩ := gI_ok o
  exact ⟨i, j, by rw [rw_int r, rw_int r'], o ι _ H Le.refl s rfl⟩⟩
/-! ### len -/
def dkAt (h : Hv) (n : Nat) : Option (List (Key × W)) := match h[n]? with
  | some (.dk ws) => some ws
  | _ => none
theorem dkAt_eq {h : Hv} {n : Nat} {ws : List (Key × W)} (e : dkAt h n = some ws) : h[n]? = some (.dk ws) := by
  unfold dkAt at e
  cases ho : h[n]? with
  | none => rw [ho] at e; cases e
  | some o =>
    rw [ho] at e
    cases o with
    | dk us => cases e; rfl
    | _ => cases e
def mdk (h : Hv) : W → Option (Nat × List (Key × W))
  | .ref n => (dkAt h n).map fun ws => (n, ws)
  | _ => none
theorem mdk_eq {h : Hv} {w : W} {n : Nat} {ws : List (Key × W)} (e : mdk h w = some (n, ws)) : w = .ref n ∧ h[n]? = some (.dk ws) := by
  cases w with
  | ref m =>
    have e : (dkAt h m).map (fun ws => (m, ws)) = some (n, ws) := e
    cases ho : dkAt h m with
    | none => rw [ho] at e; cases e
    | some us =>
      rw [ho] at e
      cases e
      exact ⟨rfl, dkAt_eq ho⟩
  | _ => cases e
theorem mdk_ok {K : PySem.W.Frag} {ι : List Addr} {H : Hp} {AH : Hv} {w : W} {v : V} {n : Nat} {ws : List (Key × W)} (s : Sr K ι H AH) (r : RW K ι H w v) (h : mdk AH w = some (n, ws)) : ∃ a vs, v = .ref a ∧ ι[n]? = some a ∧ H a = some (.dK vs) ∧ RPs K ι H ws vs := by
  obtain ⟨rfl, ho⟩ := mdk_eq h
  obtain ⟨a, ha, e1⟩ := rw_ref r
  obtain ⟨vs, e2, q⟩ := s.at ha ho
  exact ⟨a, vs, e1, ha, e2, q⟩
theorem RPs.length {K : PySem.W.Frag} {ι : List Addr} {H : Hp} {κ : Type} {l : List (κ × W)} {m : List (κ × V)} (r : RPs K ι H l m) : l.length = m.length := by
  have := congrArg List.length r.1
  simpa using this
def lenSM (w : W) : M W := fun h => match asS w with
  | some z => if z.length ≤ sizeLine then some (.ok (.int (z.length : Nat)), h) else none
  | none => none
def lenLM (w : W) : M W := fun h => match seqLT h w with
  | some ws => some (.ok (.int (ws.length : Nat)), h)
  | none => none
def lenDM (w : W) : M W := fun h => match mdk h w with
  | some p => some (.ok (.int (p.2.length : Nat)), h)
  | none => none
def lenM : List W → M W := one fun w h => match w with
  | .str _ => lenSM w h
  | _ => match mdk h w with
    | some _ => lenDM w h
    | none => lenLM w h
theorem c_len : CallM X (.builtin "len") lenM := by
  refine CallM.or (g1 := one lenSM) (g2 := one fun w h => match mdk h w with
    | some _ => lenDM w h
    | none => lenLM w h) ⟨_, call_len_str, one_ok fun Xx ι AH H w v Q s r o => ?_⟩ (CallM.or (g1 := one lenDM) (g2 := one lenLM) ⟨_, call_lenD, one_ok fun Xx ι AH H w v Q s r o => ?_⟩ ⟨_, call_len_seq, one_ok fun Xx ι AH H w v Q s r o => ?_⟩ fun ws h => ?_) fun ws h => ?_
  · unfold lenSM at o
    cases e : asS w with
    | none => rw [e] at o; exact o.elim
    | some z =>
      rw [e] at o
      cases asS_eq e
      obtain ⟨c, o⟩ := out_ite o
      exact ⟨z, by rw [rw_str r], c, o ι _ H Le.refl s rfl⟩
  · unfold lenDM at o
    cases e : mdk AH w with
    | none => rw [e] at o; exact o.elim
    | some p =>
      rw [e] at o
      obtain ⟨a, vs, rfl, ha, hv, rp⟩ := mdk_ok s r (n := p.1) (ws := p.2) e
      have o : Out X.K (RW X.K) Xx ι H (some (.ok (.int (p.2.length : Nat)), AH)) Q := o
      rw [rp.length] at o
      exact ⟨a, vs, rfl, hv, o ι _ H Le.refl s rfl⟩
  · unfold lenLM at o
    cases e : seqLT AH w with
    | none => rw [e] at o; exact o.elim
    | some ws =>
      rw [e] at o
      obtain ⟨a, vs, rfl, hv, rp⟩ := seqLT_ok s r e
      have o : Out X.K (RW X.K) Xx ι H (some (.ok (.int (ws.length : Nat)), AH)) Q := o
      rw [rp.length] at o
      exact ⟨a, vs, rfl, hv, o ι _ H Le.refl s rfl⟩
  · cases ws with
    | nil => exact .inl rfl
    | cons w t =>
      cases t with
      | nil =>
        have e0 : one (fun w h => match mdk h w with
          | some _ => lenDM w h
          | none => lenLM w h) [w] h = (match mdk h w with
          | some _ => lenDM w h
          | none => lenLM w h) := rfl
        rw [e0]
        cases mdk h w with
        | none => exact .inr rfl
        | some _ => exact .inl rfl
      | cons _ _ => exact .inl rfl
  · cases ws with
    | nil => exact .inl rfl
    | cons w t =>
      cases t with
      | nil => cases w <;> first | exact .inl rfl | exact .inr rfl
      | cons _ _ => exact .inl rfl
/-! ### list, tuple -/
def listLM (w : W) : M W := fun h => match seqLT h w with
  | some ws => alloc (.lst ws) h
  | none => none
def listSM (w : W) : M W := fun h => match asS w with
  | some z => if z.cps.size ≤ sizeLine then alloc (.lst (z.cps.toList.map fun c => .str ⟨#[c]⟩)) h else none
  | none => none
def listM : List W → M W := one fun w h => match w with
  | .str _ => listSM w h
  | _ => listLM w h
theorem cr_listS (hc : X.calm = true) : CallR X (.type "list") (fun xs H Q => ∃ z : Str, xs = [.str z] ∧ z.cps.size ≤ sizeLine ∧ ∀ p, H p = none → Q (.ref p) (upd H p (.lst (z.cps.toList.map fun c => V.str ⟨#[c]⟩)))) := by
  intro pins s σ H xs us Q I r h
  obtain ⟨z, rfl, hz, q⟩ := h
  obtain ⟨u, rfl, rx⟩ := vals1 r
  obtain ⟨t, rfl⟩ := rx
  refine call_list_str (I.ok.hd hc) z t (hn := hz) fun h' tk acc c kp e its => ?_
  have hl : Vals (z.cps.toList.map fun c => V.str ⟨#[c]⟩) acc.toList := by
    have gen : ∀ (l : List Nat) (us : List Value), us.length = l.length → (∀ (i : Nat) (v : Value), us[i]? = some v → ∃ k u, l[i]? = some k ∧ v = Value.str ⟨#[k]⟩ u) → Vals (l.map fun c => V.str ⟨#[c]⟩) us := by
      intro l
      induction l with
      | nil =>
        intro us hl _
        rw [List.length_eq_zero_iff.mp hl]; exact .nil
      | cons k l ih =>
        intro us hl hx
        cases us with
        | nil => cases hl
        | cons u us =>
          obtain ⟨k', t', e1, e2⟩ := hx 0 u rfl
          have : k = k' := by simpa using e1
          subst this
          exact .cons ⟨t', e2⟩ (ih us (by simpa using hl) fun i v hv => by simpa using hx (i + 1) v (by simpa using hv))
    refine gen _ _ (by simpa using its.1) fun i v hv => ?_
    obtain ⟨k, u, e1, e2⟩ := its.2 i v (by simpa using hv)
    exact ⟨k, u, by simpa using e1, e2⟩
  exact ⟨.ref s.heap.objs.size, _, I.laid (t' := tk) kp (Nat.le_refl _) (show ObjOk X.prog X.w _ h' _ (.lst _) from ⟨by simpa using hz, acc.toList, c, hl, by simpa using e⟩), rfl, q _ (I.hok.fresh (Nat.le_refl _))⟩
theorem c_list (hc : X.calm = true) : CallM X (.type "list") listM := by
  refine CallM.or (g1 := one listSM) (g2 := one listLM) ⟨_, cr_listS hc, one_ok fun Xx ι AH H w v Q s r o => ?_⟩ ⟨_, call_list_of, one_ok fun Xx ι AH H w v Q s r o => ?_⟩ fun ws h => ?_
  · unfold listSM at o
    cases e : asS w with
    | none => rw [e] at o; exact o.elim
    | some z =>
      rw [e] at o
      cases asS_eq e
      obtain ⟨c, o⟩ := out_ite o
      exact ⟨z, by rw [rw_str r], c, alloc_lst s (rws_ofmap (fun c => W.str ⟨#[c]⟩) (fun c => V.str ⟨#[c]⟩) (fun a => (show V.str ⟨#[a]⟩ = V.str ⟨#[a]⟩ from rfl)) z.cps.toList) o⟩
  · unfold listLM at o
    cases e : seqLT AH w with
    | none => rw [e] at o; exact o.elim
    | some ws =>
      rw [e] at o
      obtain ⟨a, vs, rfl, hv, rp⟩ := seqLT_ok s r e
      exact ⟨a, vs, rfl, hv, alloc_lst s rp o⟩
  · cases ws with
    | nil => exact .inl rfl
    | cons w t =>
      cases t with
      | nil => cases w <;> first | exact .inl rfl | exact .inr rfl
      | cons _ _ => exact .inl rfl
def tupleM : List W → M W := one fun w h => match seqLT h w with
  | some ws => ret (.tup ws) h
  | none => none
theorem c_tuple : CallM X (.type "tuple") tupleM := ⟨_, call_tuple_of, one_ok fun Xx ι AH H w v Q s r o => by
  cases e : seqLT AH w with
  | none => rw [e] at o; exact o.elim
  | some ws =>
    rw [e] at o
    obtain ⟨a, vs, rfl, hv, rp⟩ := seqLT_ok s r e
    rcases hv with hv | hv
    · exact ⟨a, vs, rfl, .inl ⟨hv, alloc_tup s rp o⟩⟩
    · exact ⟨a, vs, rfl, .inr ⟨hv, same_tup s hv rp o⟩⟩⟩
/-! ### str, int of an int -/
def strM : List W → M W := one fun w h => match asI w with
  | some i => if i.natAbs.log2 < 1920 then some (.ok (.str (toString i)), h) else none
  | none => none
theorem c_str : CallM X (.type "str") strM := ⟨_, call_str_int, one_ok fun Xx ι AH H w v Q s r o => by
  cases e : asI w with
  | none => rw [e] at o; exact o.elim
  | some i =>
    rw [e] at o
    cases asI_eq e
    obtain ⟨c, o⟩ := out_ite o
    exact ⟨i, by rw [rw_int r], c, o ι _ H Le.refl s rfl⟩⟩
/-! ### all, any -/
def asB : W → Option Bool
  | .bl b => some b
  | _ => none
theorem asB_eq {w : W} {b : Bool} (h : asB w = some b) : w = .bl b := by
  cases w <;> simp [asB] at h
  rw [h]
def asBs : List W → Option (List Bool)
  | [] => some []
  | w :: ws => match asB w, asBs ws with
    | some b, some bs => some (b :: bs)
    | _, _ => none
theorem asBs_eq : ∀ {ws : List W} {bs : List Bool}, asBs ws = some bs → ws = bs.map W.bl
  | [], bs, h => by cases h; rfl
  | w :: ws, bs, h => by
    unfold asBs at h
    cases e1 : asB w with
    | none => rw [e1] at h; cases h
    | some b =>
      cases e2 : asBs ws with
      | none => rw [e1, e2] at h; cases h
      | some r =>
        rw [e1, e2] at h
        cases h
        rw [asB_eq e1, asBs_eq e2]; rfl
def boolsM (f : List Bool → Bool) : List W → M W := one fun w h => match seqL h w with
  | some ws => (match asBs ws with
    | some bs => some (.ok (.bl (f bs)), h)
    | none => none)
  | none => none
theorem bools_ok {f : List Bool → Bool} {r : List V → Hp → VK → Prop} (hr : ∀ H Q a bs, SqL X.K H a (bs.map V.bl) → Q (.bl (f bs)) H → r [.ref a] H Q) : KeepsL X r (boolsM f) := one_ok fun Xx ι AH H w v Q s r o => by
  cases e : seqL AH w with
  | none => rw [e] at o; exact o.elim
  | some ws =>
    rw [e] at o
    obtain ⟨a, vs, rfl, hv, rp⟩ := seqL_ok s r e
    have o : Out X.K (RW X.K) Xx ι H (match asBs ws with
      | some bs => (some (.ok (.bl (f bs)), AH) : Rs W)
      | none => none) Q := o
    cases e2 : asBs ws with
    | none => rw [e2] at o; exact o.elim
    | some bs =>
      rw [e2] at o
      rw [asBs_eq e2] at rp
      have := rws_map W.bl V.bl (fun a v h => rw_bl h) rp
      subst this
      exact hr H Q a bs hv (o ι _ H Le.refl s rfl)
def allM : List W → M W := boolsM fun bs => bs.all id
def anyM : List W → M W := boolsM fun bs => bs.any id
theorem c_all (hc : X.calm = true) : CallM X (.builtin "all") allM := ⟨_, cr_all hc, bools_ok fun H Q a bs h q => ⟨a, bs, rfl, h, q⟩⟩
theorem c_any (hc : X.calm = true) : CallM X (.builtin "any") anyM := ⟨_, cr_any hc, bools_ok fun H Q a bs h q => ⟨a, bs, rfl, h, q⟩⟩
/-! ### repr -/
theorem cr_repr (hg : X.A.guards = some []) (hu : X.A.units + 64 < cLine) : CallR X (.builtin "repr") (fun xs H Q => ∃ x d, xs = [x] ∧ Dp X.K H x d ∧ d.showable = true ∧ d.hasDict = false ∧ d.depth ≤ 61 ∧ d.shown.length ≤ sizeLine ∧ Q (.str d.shown) H) := by
  intro pins s σ H xs us Q I r h
  obtain ⟨x, d, rfl, hd, h1, h2, h3, h4, q⟩ := h
  obtain ⟨u, rfl, rx⟩ := vals1 r
  cases hd with
  | non => cases rx; exact P.repr_of_none ⟨.str _, H, I.tok _, ⟨_, rfl⟩, q⟩
  | bl b => cases rx; exact P.repr_of_bool ⟨.str _, H, I.tok _, ⟨_, rfl⟩, q⟩
  | int i =>
    obtain ⟨t, rfl⟩ := rx
    exact P.repr_of_int (of_decide_eq_true h1) ⟨.str _, H, I.tok _, ⟨_, rfl⟩, q⟩
  | str z =>
    obtain ⟨t, rfl⟩ := rx
    exact P.repr_of_str ⟨.str _, H, I.tok _, ⟨_, rfl⟩, q⟩ h4
  | lst hl hs =>
    cases rx
    obtain ⟨as, rd⟩ := Dp.reads I _ _ _ (.lst hl hs) rfl
    exact repr_of_reads' rd h1 (fun z => by rw [h2] at z; cases z) hg (by omega) (fun _ _ e => e) (fun h' u tk kp => ⟨.str _, H, I.kept kp, ⟨_, rfl⟩, q⟩) h4
  | tup hl hs =>
    cases rx
    obtain ⟨as, rd⟩ := Dp.reads I _ _ _ (.tup hl hs) rfl
    exact repr_of_reads' rd h1 (fun z => by rw [h2] at z; cases z) hg (by omega) (fun _ _ e => e) (fun h' u tk kp => ⟨.str _, H, I.kept kp, ⟨_, rfl⟩, q⟩) h4
def ReprOk (d : PyData) : Prop := d.showable = true ∧ d.hasDict = false ∧ d.depth ≤ 61 ∧ d.shown.length ≤ sizeLine
instance (d : PyData) : Decidable (ReprOk d) := by unfold ReprOk; exact inferInstance
def reprM : List W → M W := one fun w h => match toD h 60 w with
  | some d => if ReprOk d then some (.ok (.str d.shown), h) else none
  | none => none
theorem c_repr (hg : X.A.guards = some []) (hu : X.A.units + 64 < cLine) : CallM X (.builtin "repr") reprM := ⟨_, cr_repr hg hu, one_ok fun Xx ι AH H w v Q s r o => by
  cases e : toD AH 60 w with
  | none => rw [e] at o; exact o.elim
  | some d =>
    rw [e] at o
    obtain ⟨⟨c1, c2, c3, c4⟩, o⟩ := out_ite o
    exact ⟨v, d, rfl, toD_ok s 60 w v d r e, c1, c2, c3, c4, o ι _ H Le.refl s rfl⟩⟩
/-! ### isinstance -/
def tyW (h : Hv) : W → Option Value
  | .non => some (.type "NoneType")
  | .bl _ => some (.type "bool")
  | .int _ => some (.type "int")
  | .str _ => some (.type "str")
  | .tup _ => some (.type "tuple")
  | .cl _ => some (.type "list")
  | .ref n => match h[n]? with
    | some (.lst _) => some (.type "list")
    | some (.dk _) => some (.type "dict")
    | some (.ins C _) => some (.ref C)
    | _ => none
  | _ => none
end
end Z
namespace Z
open PySem L2
section
variable {X : Cx} {Wx : WX} {pos p apos cpos : Pos} {a b c e o : Expr} {es rest : List Expr} {ma mb mc mo : ME W} {me : ME (List W)}
/-! ### methods of built-in types -/
inductive BT where
  | lst | str | dic
def BT.nm : BT → String
  | .lst => "list"
  | .str => "str"
  | .dic => "dict"
def BT.ok : BT → Hv → W → Bool
  | .lst, h, w => (seqL h w).isSome
  | .str, _, w => (asS w).isSome
  | .dic, h, w => (mdk h w).isSome
theorem BT.tyV {K : PySem.W.Frag} {ι : List Addr} {H : Hp} {AH : Hv} {w : W} {v : V} {t : BT} (s : Sr K ι H AH) (r : RW K ι H w v) (h : t.ok AH w = true) : L2.tyV K t.nm v H := by
  cases t with
  | lst =>
    obtain ⟨ws, e⟩ := Option.isSome_iff_exists.mp (show (seqL AH w).isSome = true from h)
    obtain ⟨a, vs, rfl, q, _⟩ := seqL_ok s r e
    exact .inl ⟨rfl, vs, q⟩
  | str =>
    obtain ⟨z, e⟩ := Option.isSome_iff_exists.mp (show (asS w).isSome = true from h)
    cases asS_eq e
    rw [rw_str r]; rfl
  | dic =>
    obtain ⟨q, e⟩ := Option.isSome_iff_exists.mp (show (mdk AH w).isSome = true from h)
    obtain ⟨a, vs, rfl, _, q, _⟩ := mdk_ok s r (n := q.1) (ws := q.2) e
    exact .inr (.inr (.inl ⟨rfl, .inl ⟨vs, q⟩⟩))
def tyc (t : BT) (x : W) : M Unit := fun h => if t.ok h x = true then some (.ok (), h) else none
def mMb (t : BT) (g : W → List W → M W) (mo : ME W) (me : ME (List W)) : ME W := bE mo fun x => bE (fun _ => tyc t x) fun _ => bE me fun ws => fun _ => g x ws
theorem tyc_at {K : PySem.W.Frag} {ι : List Addr} {H : Hp} {AH : Hv} {Xx : AX → Option Addr → Hp → Prop} {w : W} {t : BT} {γ δ : Type} {R : List Addr → Hp → γ → δ → Prop} {kk : Unit → M γ} {Q : δ → Hp → Prop}
    (h : Out K R Xx ι H (Z.bnd (tyc t w) kk AH) Q) : t.ok AH w = true ∧ Out K R Xx ι H (kk () AH) Q := by
  unfold Z.bnd tyc at h
  by_cases c : t.ok AH w = true
  · rw [if_pos c] at h; exact ⟨c, h⟩
  · rw [if_neg c] at h; exact h.elim
def KeepsMt (X : Cx) (r : V → List V → Hp → VK → Prop) (g : W → List W → M W) : Prop :=
  ∀ (Xx : AX → Option Addr → Hp → Prop) (ι : List Addr) (AH : Hv) (H : Hp) (w : W) (ws : List W) (v : V) (vs : List V) (Q : VK), Sr X.K ι H AH → RW X.K ι H w v → RWs X.K ι H ws vs → Out X.K (RW X.K) Xx ι H (g w ws AH) Q → r v vs H Q
def MtMM (X : Cx) (id : String) (g : W → List W → M W) : Prop := ∃ r, MtR X id r ∧ KeepsMt X r g
theorem m_bm {t : BT} {name : Str} {id : String} {g : W → List W → M W} (pa : PlainAttrs t.nm) (slot : Slot t.nm name id) (hty : typeOf (.builtin id) = pure (.type "method_descriptor")) (hm : MtMM X id g) (ho : PEm X Wx o mo) (ha : PAm X Wx (e :: es) me)
    (hbase : attributeBase o name X.env (eval o X.env) = eval o X.env := by rfl)
    (hfew : ((backTo cpos (starEach (e :: es) X.env)).all (fun x => !x.1) && (backToKw cpos (keywordEach [] X.env)).all (fun x => x.1.isSome)
      && decide ((e :: es).length + ([] : List Keyword).length + (if ([] : List Keyword).isEmpty then 0 else 1) < 30)) = true := by rfl)
    (hline : (apos.endLine == cpos.line) = true := by rfl) (hs : starEach (e :: es) X.env = (false, eval e X.env) :: starEach es X.env := by rfl) (hplain : (backTo cpos (starEach es X.env)).any (·.1) = false := by rfl) :
    PEm X Wx (.Call (.Attribute o name apos) (e :: es) [] cpos) (mMb t g mo me) := by
  obtain ⟨r, hm, k⟩ := hm
  refine .imp (pe_bm pa slot hty hm ho.pe ha.pa hbase hfew hline hs hplain) fun σ H Q h => tG_bnd h fun ι1 w AH1 v H1 e re s1 r1 q => ?_
  obtain ⟨c, q⟩ := tyc_at q
  obtain q := Out.bnd (R := RWs X.K) q
  exact ⟨BT.tyV s1 r1 c, ι1, e, AH1, re, s1, q.imp fun us H2 ⟨ι2, ws, AH2, l2, s2, r2, q2⟩ => k _ ι2 AH2 H2 w ws v us Q s2 (RW.mono l2 _ _ r1) r2 q2⟩
theorem m_bm0 {t : BT} {name : Str} {id : String} {g : W → List W → M W} (pa : PlainAttrs t.nm) (slot : Slot t.nm name id) (hty : typeOf (.builtin id) = pure (.type "method_descriptor")) (hm : MtMM X id g) (ho : PEm X Wx o mo)
    (hbase : attributeBase o name X.env (eval o X.env) = eval o X.env := by rfl) (hline : (apos.endLine == cpos.line) = true := by rfl) : PEm X Wx (.Call (.Attribute o name apos) [] [] cpos) (mMb t g mo mNil) := by
  obtain ⟨r, hm, k⟩ := hm
  refine .imp (pe_bm0 pa slot hty hm ho.pe hbase hline) fun σ H Q h => tG_bnd h fun ι1 w AH1 v H1 e re s1 r1 q => ?_
  obtain ⟨c, q⟩ := tyc_at q
  exact ⟨BT.tyV s1 r1 c, k _ ι1 AH1 H1 w [] v [] Q s1 r1 RWs.nl q⟩
/-- a method of a list that may be written, one argument -/
def lst1 (f : Nat → List W → W → M W) : W → List W → M W := fun x ws h => match mlst h x with
  | some q => one (f q.1 q.2) ws h
  | none => none
theorem one_inv {K : PySem.W.Frag} {ι : List Addr} {H : Hp} {AH : Hv} {Xx : AX → Option Addr → Hp → Prop} {ws : List W} {vs : List V} {f : W → M W} {Q : VK} (rs : RWs K ι H ws vs) (o : Out K (RW K) Xx ι H (one f ws AH) Q) : ∃ w v, vs = [v] ∧ RW K ι H w v ∧ Out K (RW K) Xx ι H (f w AH) Q := by
  cases ws with
  | nil => exact o.elim
  | cons w t =>
    cases t with
    | nil =>
      obtain ⟨v, rfl, rv⟩ := rws_one rs
      exact ⟨w, v, rfl, rv, o⟩
    | cons _ _ => exact o.elim
theorem lst1_ok {r : V → List V → Hp → VK → Prop} {f : Nat → List W → W → M W}
    (h : ∀ (Xx : AX → Option Addr → Hp → Prop) (ι : List Addr) (AH : Hv) (H : Hp) (n : Nat) (l : List W) (w : W) (p : Addr) (xs : List V) (v : V) (Q : VK), Sr X.K ι H AH → ι[n]? = some p → H p = some (.lst xs) → RWs X.K ι H l xs → RW X.K ι H w v → Out X.K (RW X.K) Xx ι H (f n l w AH) Q → r (.ref p) [v] H Q) : KeepsMt X r (lst1 f) := by
  intro Xx ι AH H w ws v vs Q s rv rs o
  unfold lst1 at o
  cases e : mlst AH w with
  | none => rw [e] at o; exact o.elim
  | some q =>
    rw [e] at o
    obtain ⟨p, xs, rfl, hp, hx, rx⟩ := mlst_ok s rv (n := q.1) (ws := q.2) e
    obtain ⟨u, z, rfl, rz, o⟩ := one_inv rs o
    exact h Xx ι AH H q.1 q.2 u p xs z Q s hp hx rx rz o
/-- a store of a new list there -/
theorem set_lst {K : PySem.W.Frag} {ι : List Addr} {H : Hp} {AH : Hv} {Xx : AX → Option Addr → Hp → Prop} {n : Nat} {p : Addr} {l : List W} {xs ys : List V} {w : W} {v : V} {Q : VK} (s : Sr K ι H AH) (hn : ι[n]? = some p) (hp : H p = some (.lst xs)) (r : RWs K ι H l ys) (rv : RW K ι H w v)
    (o : Out K (RW K) Xx ι H (some (.ok w, AH.set n (.lst l))) Q) : Q v (upd H p (.lst ys)) := by
  have le : Le K ι H ι (upd H p (.lst ys)) := Le.mu (s.mut hn)
  exact o ι v _ le (s.set hn ⟨ys, upd_same, RWs.mono le _ _ r⟩) (RW.mono le _ _ rv)
def appendM : W → List W → M W := lst1 fun n l w h => if l.length < sizeLine then some (.ok .non, h.set n (.lst (l ++ [w]))) else none
theorem t_append : MtMM X "list.append" appendM := ⟨rAppend, mt_append, lst1_ok fun Xx ι AH H n l w p xs v Q s hn hp rx rv o => by
  obtain ⟨c, o⟩ := out_ite o
  exact ⟨p, xs, v, rfl, rfl, hp, by rw [← rx.length]; exact c, set_lst s hn hp (rx.append (RWs.mk rv RWs.nl)) (w := .non) (v := .non) rfl o⟩⟩
theorem m_append (ho : PEm X Wx o mo) (ha : PAm X Wx [e] me) (hbase : attributeBase o "append" X.env (eval o X.env) = eval o X.env := by rfl)
    (hfew : ((backTo cpos (starEach [e] X.env)).all (fun x => !x.1) && (backToKw cpos (keywordEach [] X.env)).all (fun x => x.1.isSome)
      && decide ([e].length + ([] : List Keyword).length + (if ([] : List Keyword).isEmpty then 0 else 1) < 30)) = true := by rfl)
    (hline : (apos.endLine == cpos.line) = true := by rfl) (hs : starEach [e] X.env = (false, eval e X.env) :: starEach [] X.env := by rfl) (hplain : (backTo cpos (starEach [] X.env)).any (·.1) = false := by rfl) :
    PEm X Wx (.Call (.Attribute o "append" apos) [e] [] cpos) (mMb .lst appendM mo me) :=
  m_bm (t := .lst) PySem.F.plainAttrs_list PySem.F.slot_list_append PySem.F.type_list_append t_append ho ha hbase hfew hline hs hplain
/-! ### join -/
def asSs : List W → Option (List Str)
  | [] => some []
  | w :: ws => match asS w, asSs ws with
    | some b, some bs => some (b :: bs)
    | _, _ => none
theorem asSs_eq : ∀ {ws : List W} {bs : List Str}, asSs ws = some bs → ws = bs.map W.str
  | [], bs, h => by cases h; rfl
  | w :: ws, bs, h => by
    unfold asSs at h
    cases e1 : asS w with
    | none => rw [e1] at h; cases h
    | some b =>
      cases e2 : asSs ws with
      | none => rw [e1, e2] at h; cases h
      | some r =>
        rw [e1, e2] at h
        cases h
        rw [asS_eq e1, asSs_eq e2]; rfl
def joinW (x y : W) : M W := fun h => match asS x, seqLT h y with
  | some a, some ws => (match asSs ws with
    | some ys => if (ys.map (·.length)).sum + ys.length * a.length ≤ 16777216 then some (.ok (.str (Txt.join a ys)), h) else none
    | none => none)
  | _, _ => none
def mJoin (mo me : ME W) : ME W := bE mo fun x => bE (fun _ => tyc .str x) fun _ => bE me fun y => fun _ => joinW x y
theorem m_join (ho : PEm X Wx o mo) (ha : PEm X Wx e ma) (hs : starEach [e] X.env = [(false, eval e X.env)] := by rfl) (hbase : attributeBase o "join" X.env (eval o X.env) = eval o X.env := by rfl) (hline : (apos.endLine == pos.line) = true := by rfl) :
    PEm X Wx (.Call (.Attribute o "join" apos) [e] [] pos) (mJoin mo ma) := by
  refine .imp (pe_join ho.pe ha.pe hs hbase hline) fun σ H Q h => tG_bnd h fun ι1 w AH1 v H1 e re s1 r1 q => ?_
  obtain ⟨c, q⟩ := tyc_at q
  obtain q := Out.bnd (R := RW X.K) q
  obtain ⟨z, ez⟩ := Option.isSome_iff_exists.mp (show (asS w).isSome = true from c)
  cases asS_eq ez
  refine ⟨⟨z, rw_str r1⟩, ι1, e, AH1, re, s1, q.imp fun u H2 ⟨ι2, y, AH2, l2, s2, r2, q2⟩ => ?_⟩
  have q2 : Out X.K (RW X.K) (wx Wx σ) ι2 H2 (joinW (.str z) y AH2) Q := q2
  unfold joinW at q2
  cases e1 : seqLT AH2 y with
  | none => simp only [asS, e1] at q2; exact q2.elim
  | some ws =>
    simp only [asS, e1] at q2
    obtain ⟨p, vs, rfl, hq, rx⟩ := seqLT_ok s2 r2 e1
    cases e2 : asSs ws with
    | none => simp only [e2] at q2; exact q2.elim
    | some ys =>
      simp only [e2] at q2
      rw [asSs_eq e2] at rx
      have := rws_map W.str V.str (fun a v h => rw_str h) rx
      subst this
      obtain ⟨c2, q2⟩ := out_ite q2
      exact ⟨z, p, ys, rw_str r1, rfl, hq, c2, q2 ι2 _ H2 Le.refl s2 rfl⟩
/-! ### isinstance -/
def clsW : W → Option Value
  | .ty n => some (.type n)
  | .gl a => some (.ref a)
  | _ => none
def isiM (isi : Value → Value → Option Bool) : List W → M W := two fun x c h => match tyW h x, clsW c with
  | some t, some u => (match isi t u with
    | some b => some (.ok (.bl b), h)
    | none => none)
  | _, _ => none
/-- of built-in types -/
def isiB : Value → Value → Option Bool
  | .type a, .type b => kitB a b
  | _, _ => none
structure InsF (K : PySem.W.Frag) (C : Addr) : Prop where
  cl : Cls K C
  ha : PySem.W.findIn K (.ref C) "__class__" = some (some (.builtin "object.__class__"))
  hn : PySem.W.specialIn K (.builtin "object.__class__") "__get__" = some (some (.builtin "getset_descriptor.__get__"))
  htk : PySem.W.takesIn K (.builtin "object.__class__") = some true
  hm : PySem.W.mroIn K C (.type "object") = some true
structure IsiOk (K : PySem.W.Frag) (isi : Value → Value → Option Bool) : Prop where
  kit : ∀ t u b, isi t u = some b → PySem.W.kitOne K t u = some b
  ins : ∀ C u b, isi (.ref C) u = some b → InsF K C
theorem isiB_ok {K : PySem.W.Frag} : IsiOk K isiB := by
  refine ⟨fun t u b h => ?_, fun C u b h => ?_⟩
  · cases t with
    | type x => cases u with
      | type y => exact kit_ty h
      | _ => cases h
    | _ => cases h
  · cases h
theorem ty_ok {K : PySem.W.Frag} {ι : List Addr} {H : Hp} {AH : Hv} {w : W} {v : V} {t : Value} (s : Sr K ι H AH) (r : RW K ι H w v) (h : tyW AH w = some t) (hi : ∀ C, t = .ref C → InsF K C) : TyX K H v t := by
  cases w with
  | non => cases h; rw [rw_non r]; exact .base .non
  | bl b => cases h; rw [rw_bl r]; exact .base (.bl b)
  | int b => cases h; rw [rw_int r]; exact .base (.int b)
  | str b => cases h; rw [rw_str r]; exact .base (.str b)
  | ty n => cases h
  | gl a => cases h
  | tup ws =>
    cases h
    obtain ⟨p, vs, rfl, t, _⟩ := rw_tup r
    rcases t with (t | ⟨o, t⟩) | ⟨o, its, n, t, c, _⟩
    · exact .base (.tup t)
    · exact .fTuple t
    · exact .kTuple t c
  | cl ws =>
    cases h
    obtain ⟨p, vs, rfl, t, _⟩ := rw_cl r
    rcases t with ⟨o, t⟩ | ⟨o, its, n, t, c, _⟩
    · exact .base (.frz t)
    · exact .kList t c
  | ref n =>
    obtain ⟨p, hp, rfl⟩ := rw_ref r
    unfold tyW at h
    cases ho : AH[n]? with
    | none => simp only [ho] at h; cases h
    | some ob =>
      cases ob with
      | lst ws =>
        simp only [ho] at h
        cases h
        obtain ⟨vs, e, _⟩ := s.at hp ho
        exact .base (.lst e)
      | dk ws =>
        simp only [ho] at h
        cases h
        obtain ⟨vs, e, _⟩ := s.at hp ho
        exact .base (.dK e)
      | ins C fs =>
        simp only [ho] at h
        cases h
        obtain ⟨dx, vs, e, _⟩ := s.at hp ho
        have f := hi C rfl
        exact .base (.ins e f.cl f.ha f.hn f.htk f.hm)
      | tab _ _ => simp only [ho] at h; cases h
  | clo _ _ _ _ _ _ => cases h
theorem c_isi {isi : Value → Value → Option Bool} (hi : IsiOk X.K isi) : CallM X (.builtin "isinstance") (isiM isi) := ⟨_, call_isi, two_ok fun Xx ι AH H w u v v' Q s r r' o => by
  cases e1 : tyW AH w with
  | none => simp only [e1] at o; exact o.elim
  | some t =>
    cases e2 : clsW u with
    | none => simp only [e1, e2] at o; exact o.elim
    | some cv =>
      simp only [e1, e2] at o
      cases e3 : isi t cv with
      | none => simp only [e3] at o; exact o.elim
      | some b =>
        simp only [e3] at o
        refine ⟨v, v', t, cv, b, rfl, ?_, ty_ok s r e1 fun C e => hi.ins C cv b (e ▸ e3), hi.kit _ _ _ e3, o ι _ H Le.refl s rfl⟩
        cases u with
        | ty n => cases e2; rw [show v' = .ty n from r']; exact .ty n
        | gl a => cases e2; rw [show v' = .ref a from r']; exact .own a
        | _ => cases e2⟩
end
end Z
namespace Z
open PySem PySem.Spec PyProof.Rows L2
def pick {α : Type} (sel : List Nat) (xs : List α) : List α := sel.filterMap fun i => xs[i]?
theorem RWs.pick {K : PySem.W.Frag} {ι : List Addr} {H : Hp} {ws : List W} {vs : List V} (r : RWs K ι H ws vs) : ∀ sel : List Nat, RWs K ι H (Z.pick sel ws) (Z.pick sel vs)
  | [] => RWs.nl
  | i :: sel => by
    have ih := RWs.pick r sel
    unfold Z.pick at ih ⊢
    cases e : ws[i]? with
    | none =>
      have e2 : vs[i]? = none := by
        rw [List.getElem?_eq_none_iff] at e ⊢
        rw [← r.length]; exact e
      rw [List.filterMap_cons_none e, List.filterMap_cons_none e2]
      exact ih
    | some w =>
      obtain ⟨v, hv, rv⟩ := r.get e
      rw [List.filterMap_cons_some e, List.filterMap_cons_some hv]
      exact RWs.mk rv ih
theorem Vals_pick {vs : List V} {us : List Value} (r : Vals vs us) : ∀ sel : List Nat, Vals (pick sel vs) (pick sel us)
  | [] => .nil
  | i :: sel => by
    have ih := Vals_pick r sel
    unfold pick at ih ⊢
    cases e : vs[i]? with
    | none =>
      have e2 : us[i]? = none := r.none_of e
      rw [List.filterMap_cons_none e, List.filterMap_cons_none e2]
      exact ih
    | some w =>
      obtain ⟨v, hv, rv⟩ := r.get e
      rw [List.filterMap_cons_some e, List.filterMap_cons_some hv]
      exact .cons rv ih
/-- how a call with n positional values and keywords ks binds: the parameters picked out of the values, the keywords' values, the defaults dvs -/
structure KBs (K : PySem.W.Frag) (fd : FuncData) (ps : List Str) (n : Nat) (ks : List Str) (sel : List Nat) (dvs : List V) : Prop where
  bind : ∃ ds : List Value, Vals dvs ds ∧ ∀ (s : Shared) (us ws : List Value), K.In s.heap → us.length = n → ws.length = ks.length → BindsTo s fd ⟨us, ks.zip ws⟩ (ps.zip (pick sel (us ++ ws ++ ds)))
section
variable {K : PySem.W.Frag} {x qual : Str} {params : Arguments} {body : List Stmt} {scope : Scope} {dvs : List V} {kws : List (Str × V)} {f : Addr} {fd : FuncData} {ps : List Str}
theorem kbs_plain {n : Nat} {ks : List Str} {sel : List Nat} (F : FunD K x qual params body scope [] kws f fd)
    (h : ∀ (kV doc pm : Value) (an : Option Addr) (cdv ct : Value) (us ws : List Value), us.length = n → ws.length = ks.length → bindArgs (PySem.W.fnOf x qual params body scope .none kV doc pm an cdv ct) ⟨us, ks.zip ws⟩ = pure (ps.zip (pick sel (us ++ ws ++ [])))) : KBs K fd ps n ks sel [] := by
  obtain ⟨oc, od, dV, kV, doc, pm, an, cdv, ct, osl, rfl, lk, hcd, hD, hK⟩ := F.ex
  rcases hD with ⟨_, rfl⟩ | ⟨e, _⟩
  · exact ⟨[], .nil, fun s us ws _ l1 l2 => .of_eq (h kV doc pm an cdv ct us ws l1 l2)⟩
  · exact absurd rfl e
theorem kbs_kwd {n : Nat} {ks : List Str} {sel : List Nat} (ms : List (Str × V)) (F : FunD K x qual params body scope [] kws f fd) (hk : kws ≠ []) (hms : ∀ q ∈ ms, q ∈ kws)
    (h : ∀ (D : Addr) (doc pm : Value) (an : Option Addr) (cdv ct : Value) (us mv ws : List Value), us.length = n → mv.length = ms.length → ws.length = ks.length →
      KwChain D ((ms.map (·.1)).zip mv) (bindArgs (PySem.W.fnOf x qual params body scope .none (.ref D) doc pm an cdv ct) ⟨us, ks.zip ws⟩) (ps.zip (pick sel (us ++ ws ++ mv)))) : KBs K fd ps n ks sel (ms.map (·.2)) := by
  obtain ⟨oc, od, dV, kV, doc, pm, an, cdv, ct, osl, rfl, lk, hcd, hD, hK⟩ := F.ex
  rcases hD with ⟨_, rfl⟩ | ⟨e, _⟩
  · rcases hK with e | ⟨D, rfl, hq⟩
    · exact absurd e hk
    · obtain ⟨mv, hl, rk, hks⟩ := kwd_vals (ms := ms) fun q hm => hq q (hms q hm)
      exact ⟨mv, rk, fun s us ws X l1 l2 => BindsTo.of_looks fun M => KwChain.looks X hks (h D doc pm an cdv ct us mv ws l1 hl l2)⟩
  · exact absurd rfl e
end
/-- keywords' values, from the left -/
structure PKm (X : Cx) (Wx : WX) (kws : List Keyword) (m : ME (List W)) : Prop where
  pk : PK X kws (tA X.K Wx m)
theorem PK_imp {X : Cx} {e : List Keyword} {t t' : TA} (h : PK X e t) (f : ∀ σ H Q, t' σ H Q → t σ H Q) : PK X e t' := ⟨fun pos pins s σ H Q I q => h.run pos pins s σ H Q I (f σ H Q q)⟩
def mKw (n m : Nat) (F : List W → M W) (sel : List Nat) (dws : List W) (ma mk : ME (List W)) : ME W := bE ma fun ws => bE mk fun zs => fun _ h => if ws.length = n ∧ zs.length = m then F (pick sel (ws ++ zs ++ dws)) h else none
section
variable {X : Cx} {Wx : WX} {k n l : Nat} {f C : Addr} {fd : FuncData} {ps ks : List Str} {F : List W → M W} {p pos apos kpos : Pos} {e o : Expr} {es : List Expr} {kws : List Keyword} {x mn : Str} {nm : Option Str} {ma mk : ME (List W)} {mo me : ME W} {sel : List Nat} {dws : List W} {dvs : List V}
theorem k_nil : PKm X Wx [] mNil := ⟨PK_imp pk_nil fun σ H Q ⟨ι, e, AH, re, s, h⟩ => h ι [] H Le.refl s RWs.nl⟩
theorem k_cons (ha : PEm X Wx e me) (hr : PKm X Wx kws mk) : PKm X Wx (⟨nm, e, kpos⟩ :: kws) (mCons me mk) :=
  ⟨PK_imp (pk_cons ha.pe hr.pk) fun σ H Q h => tG_bnd h fun ι1 w1 AH1 v1 H1 e re s1 r1 q => by
    obtain q := Out.bnd (R := RWs X.K) q
    refine ⟨ι1, e, AH1, re, s1, q.imp fun v2 H2 ⟨ι2, w2, AH2, l, s2, r2, q2⟩ => ?_⟩
    exact q2 ι2 (v1 :: v2) H2 Le.refl s2 (RWs.mk (RW.mono l _ _ r1) r2)⟩
/-- what stands when the values of a call with keywords are there -/
def KwAt (X : Cx) (Wx : WX) (n m : Nat) (G : List W → M W) (Q : VK) (σ : L2.St) (vs zs : List V) (H : Hp) : Prop :=
  ∃ ι ws us AH, ws.length = n ∧ us.length = m ∧ RWs X.K ι H ws vs ∧ RWs X.K ι H us zs ∧ Sr X.K ι H AH ∧ Out X.K (RW X.K) (wx Wx σ) ι H (G (ws ++ us) AH) Q
theorem kw_values {m : Nat} {G : List W → M W} {σ : L2.St} {H : Hp} {Q : VK} (h : tE X.K Wx (bE ma fun ws => bE mk fun zs => fun _ h => if ws.length = n ∧ zs.length = m then G (ws ++ zs) h else none) σ H Q) :
    tA X.K Wx ma σ H fun vs H1 => tA X.K Wx mk σ H1 fun zs H2 => KwAt X Wx n m G Q σ vs zs H2 := by
  refine tG_bnd h fun ι1 ws AH1 vs H1 e re s1 r1 q => ?_
  obtain q := Out.bnd (R := RWs X.K) q
  refine ⟨ι1, e, AH1, re, s1, q.imp fun zs H2 ⟨ι2, us, AH2, l, s2, r2, q2⟩ => ?_⟩
  obtain ⟨⟨c1, c2⟩, q2⟩ := out_ite q2
  exact ⟨ι2, ws, us, AH2, c1, c2, RWs.mono l _ _ r1, r2, s2, q2⟩
theorem pick_len {α : Type} {xs : List α} : ∀ {sel : List Nat}, (∀ i ∈ sel, i < xs.length) → (pick sel xs).length = sel.length
  | [], _ => rfl
  | i :: sel, h => by
    have hi : i < xs.length := h i (by simp)
    have e : xs[i]? = some xs[i] := by simp [hi]
    have ih := pick_len (xs := xs) (sel := sel) fun j hj => h j (by simp [hj])
    unfold pick at ih ⊢
    rw [List.filterMap_cons_some e, List.length_cons, List.length_cons, ih]
/-- the numbers fit -/
structure SelOk (sel : List Nat) (n m : Nat) (dvs : List V) (ps : List Str) : Prop where
  len : sel.length = ps.length
  lt : ∀ i ∈ sel, i < n + m + dvs.length
theorem kw_go (G : FM X.prog X.w X.K X.mg X.base k f fd ps F) (hr : Room k X.A) (hG : X.A.guards = some []) (tk : L2N.Takes X Wx) (hb : KBs X.K fd ps n ks sel dvs) (hd : ∀ ι H, RWs X.K ι H dws dvs) (ok : SelOk sel n ks.length dvs ps)
    {pins : List (Addr × Obj)} {σ : L2.St} {H : Hp} {s : Shared} {Q : VK} {us ws : List Value} {vs zs : List V} (I : Inv X pins σ H s) (r1 : Vals vs us) (r2 : Vals zs ws) (h : KwAt X Wx n ks.length (fun l => F (pick sel (l ++ dws))) Q σ vs zs H) :
    wpAny (model X.prog X.w) X.A (call (.ref f) us (ks.zip ws)) (EP X pins σ Q) X.xe s := by
  obtain ⟨ι, wl, zl, AH, l1, l2, rw1, rw2, sr, q⟩ := h
  obtain ⟨ds, rd, bind⟩ := hb.bind
  have rr := (rw1.append rw2).append (hd ι H)
  have vv := Vals_pick ((r1.append r2).append rd) sel
  have e1 : us.length = n := by rw [← r1.length, ← rw1.length, l1]
  have e2 : ws.length = ks.length := by rw [← r2.length, ← rw2.length, l2]
  refine call_G G hr hG tk I (us := us) (kw := ks.zip ws) (us2 := pick sel (us ++ ws ++ ds)) (bind s us ws I.kIn e1 e2) vv ⟨?_, ι, _, AH, rr.pick sel, sr, q⟩
  rw [pick_len, ok.len]
  intro i hi
  have := ok.lt i hi
  rw [List.length_append, List.length_append, r1.length, r2.length, e1, e2]
  exact this
/-- f(e, .., k = v, ..) -/
theorem m_callK (G : FM X.prog X.w X.K X.mg X.base k f fd ps F) (hr : Room k X.A) (hG : X.A.guards = some []) (tk : L2N.Takes X Wx) (hg : Gl X x) (hm : X.mg x = some (.ref f)) (hk : PySem.W.keepIn X.K (.ref f) = true) (hb : KBs X.K fd ps n ks sel dvs) (hd : ∀ ι H, RWs X.K ι H dws dvs) (ok : SelOk sel n ks.length dvs ps)
    (ha : PAm X Wx (e :: es) ma) (hkw : PKm X Wx kws mk) (hall : (backToKw pos (keywordEach kws X.env)).all (·.1.isSome) = true := by rfl) (hks : (backToKw pos (keywordEach kws X.env)).filterMap (·.1) = ks := by rfl) (hdb : (x == ("__debug__" : Str)) = false := by decide)
    (he : starEach (e :: es) X.env = (false, eval e X.env) :: starEach es X.env := by rfl) (hpl : ((backTo pos (starEach (e :: es) X.env)).any (·.1) || (backToKw pos (keywordEach kws X.env)).any (·.1.isNone)) = false := by rfl) (hl : ks.length = l := by rfl) :
    PEm X Wx (.Call (.Name x p) (e :: es) kws pos) (mKw n l F sel dws ma mk) := by
  subst hl
  refine ⟨⟨fun pins s σ H Q I h => ?_⟩⟩
  refine wpAny_Call_Name_kw (ld_glob I hg hm ?_ hdb)
  refine PySem.W.callWith_KW (h₀ := X.base) I.ok.mod.kin hk hall (thn (ha.pa.run pos pins s σ H _ I (kw_values (G := fun l => F (pick sel (l ++ dws))) h)) fun us s1 z => ?_) hpl he
  obtain ⟨vs, H1, I1, r1, q1⟩ := z
  refine thn (hkw.pk.run pos pins s1 σ H1 _ I1 q1) fun ws s2 z => ?_
  obtain ⟨zs, H2, I2, r2, q2⟩ := z
  refine ⟨I2.kIn, ?_⟩
  rw [hks]
  exact kw_go G hr hG tk hb hd ok I2 r1 r2 q2
/-- f(k = v, ..) -/
theorem m_callK0 (G : FM X.prog X.w X.K X.mg X.base k f fd ps F) (hr : Room k X.A) (hG : X.A.guards = some []) (tk : L2N.Takes X Wx) (hg : Gl X x) (hm : X.mg x = some (.ref f)) (hk : PySem.W.keepIn X.K (.ref f) = true) (hb : KBs X.K fd ps 0 ks sel dvs) (hd : ∀ ι H, RWs X.K ι H dws dvs) (ok : SelOk sel 0 ks.length dvs ps)
    (hkw : PKm X Wx kws mk) (hall : (backToKw pos (keywordEach kws X.env)).all (·.1.isSome) = true := by rfl) (hks : (backToKw pos (keywordEach kws X.env)).filterMap (·.1) = ks := by rfl) (hdb : (x == ("__debug__" : Str)) = false := by decide)
    (hpl : ((backTo pos (starEach [] X.env)).any (·.1) || (backToKw pos (keywordEach kws X.env)).any (·.1.isNone)) = false := by rfl) (hl : ks.length = l := by rfl) :
    PEm X Wx (.Call (.Name x p) [] kws pos) (mKw 0 l F sel dws mNil mk) := by
  subst hl
  refine ⟨⟨fun pins s σ H Q I h => ?_⟩⟩
  refine wpAny_Call_Name_kw (ld_glob I hg hm ?_ hdb)
  refine PySem.W.callWith_KW0 (h₀ := X.base) I.ok.mod.kin hk hall ?_ hpl
  obtain ⟨ι, e, AH, re, sr, h⟩ := kw_values (G := fun l => F (pick sel (l ++ dws))) h
  refine thn (hkw.pk.run pos pins s σ H _ I (h ι [] H Le.refl sr RWs.nl)) fun ws s2 z => ?_
  obtain ⟨zs, H2, I2, r2, q2⟩ := z
  refine ⟨I2.kIn, ?_⟩
  rw [hks]
  exact kw_go G hr hG tk hb hd ok I2 .nil r2 q2
end
end Z
namespace Z
open PySem PySem.Spec PyProof.Rows L2
/-- no exception wished for -/
abbrev WF : WX := fun _ _ _ _ => False
theorem takesF {X : Cx} : L2N.Takes X WF := fun _ _ ⟨_, _, _, _, _, _, _, _, _, _, _, _, _, _, _, _, w⟩ => w.elim
section
variable {X : Cx} {Wx : WX} {pos pos' tpos : Pos} {a b c e o i : Expr} {ma mb mo mi : ME W}
/-! ### o[i] = v -/
/-- the heap behind a store -/
def OutU (K : PySem.W.Frag) (ι : List Addr) (H : Hp) (r : Option Hv) (Q : Hp → Prop) : Prop := match r with
  | none => False
  | some AH' => ∀ H', Le K ι H ι H' → Sr K ι H' AH' → Q H'
def SetM (X : Cx) (g : W → W → W → Hv → Option Hv) : Prop := ∃ t, PSet X t ∧
  ∀ (ι : List Addr) (AH : Hv) (H : Hp) (w1 w2 w3 : W) (v1 v2 v3 : V) (Q : Hp → Prop), Sr X.K ι H AH → RW X.K ι H w1 v1 → RW X.K ι H w2 v2 → RW X.K ι H w3 v3 → OutU X.K ι H (g w1 w2 w3 AH) Q → t v1 v2 v3 H Q
def setLM (x y z : W) (h : Hv) : Option Hv := match mlst h x, asI y with
  | some q, some i => (match ixN q.2.length i with
    | some j => some (h.set q.1 (.lst (q.2.set j z)))
    | none => none)
  | _, _ => none
theorem RWs.setAt {K : PySem.W.Frag} {ι : List Addr} {H : Hp} {w : W} {v : V} : ∀ {ws : List W} {vs : List V} (j : Nat), RWs K ι H ws vs → RW K ι H w v → RWs K ι H (ws.set j w) (vs.set j v)
  | [], vs, j, r, rv => by rw [rws_nil r]; exact RWs.nl
  | u :: ws, vs, 0, r, rv => by
    obtain ⟨x, xr, rfl, ru, rr⟩ := rws_cons r
    exact RWs.mk rv rr
  | u :: ws, vs, j + 1, r, rv => by
    obtain ⟨x, xr, rfl, ru, rr⟩ := rws_cons r
    exact RWs.mk ru (RWs.setAt j rr rv)
theorem st_list : SetM X setLM := by
  refine ⟨_, set_list, fun ι AH H w1 w2 w3 v1 v2 v3 Q s r1 r2 r3 q => ?_⟩
  unfold setLM at q
  cases e1 : mlst AH w1 with
  | none => simp only [e1] at q; exact q.elim
  | some nl =>
    cases e2 : asI w2 with
    | none => simp only [e1, e2] at q; exact q.elim
    | some k =>
      simp only [e1, e2] at q
      cases e3 : ixN nl.2.length k with
      | none => simp only [e3] at q; exact q.elim
      | some j =>
        simp only [e3] at q
        cases asI_eq e2
        obtain ⟨p, xs, rfl, hp, hx, rx⟩ := mlst_ok s r1 (n := nl.1) (ws := nl.2) e1
        have le : Le X.K ι H ι (upd H p (.lst (xs.set j v3))) := Le.mu (s.mut hp)
        exact ⟨p, xs, k, j, rfl, r2, hx, by rw [← rx.length]; exact e3, q _ le (s.set hp ⟨xs.set j v3, upd_same, RWs.mono le _ _ (rx.setAt j r3)⟩)⟩
/-- the parts are read first, their values kept -/
def gSubM (g : W → W → W → Hv → Option Hv) (mo mi : ME W) (z : W) : MS := eS mo fun x => eS mi fun y => fun e h => match g x y z h with
  | some h' => some (.ok .nx, e, h')
  | none => none
theorem out_eS {α β : Type} {K : PySem.W.Frag} {R : List Addr → Hp → α → β → Prop} {ι : List Addr} {H : Hp} {AH : Hv} {e : Ev} {m : ME α} {k : α → MS} {D : Ends} {Wx : WX} {σ : L2.St} (re : RE K ι H e σ) (h : OutS K Wx ι H (eS m k e AH) D) :
    Out K R (wx Wx σ) ι H (m e AH) (fun v H1 => ∃ ι1 w AH1, Le K ι H ι1 H1 ∧ Sr K ι1 H1 AH1 ∧ R ι1 H1 w v ∧ OutS K Wx ι1 H1 (k w e AH1) D) := by
  unfold eS at h
  match hm : m e AH, h with
  | none, h => exact h
  | some (.error x, AH'), h => exact fun ι1 d H1 l s1 r => h ι1 σ d H1 l s1 (re.mono l) r
  | some (.ok w, AH'), h => exact fun ι1 v H1 l s1 r => ⟨ι1, w, AH', l, s1, r, h.le l⟩
theorem g_sub {g : W → W → W → Hv → Option Hv} (hs : SetM X g) (ho : PEm X WF o mo) (hi : PEm X WF i mi)
    (ha : ∀ v, assign (.Subscript o i pos) X.env v = (do
      let ov ← holding [v] (eval o X.env)
      let iv ← holding [v, ov] (eval i X.env)
      standAt pos
      holding [v, ov, iv] (setItem ov iv v)
      release [v, ov, iv] []) := by intro _; rfl) : PGm X (.Subscript o i pos) (gSubM g mo mi) := by
  obtain ⟨t, ht, k⟩ := hs
  refine ⟨PG_imp (pg_sub ho.pe hi.pe ht ha) fun v σ H Q ⟨ι, e, AH, w, re, s, r, h⟩ => ?_⟩
  obtain q := out_eS (R := RW X.K) re h
  refine ⟨ι, e, AH, re, s, q.imp fun v1 H1 ⟨ι1, w1, AH1, l1, s1, r1, q1⟩ => ?_⟩
  obtain q1 := out_eS (R := RW X.K) (re.mono l1) q1
  refine ⟨ι1, e, AH1, re.mono l1, s1, q1.imp fun v2 H2 ⟨ι2, w2, AH2, l2, s2, r2, q2⟩ => ?_⟩
  refine k ι2 AH2 H2 w1 w2 w v1 v2 v _ s2 (RW.mono l2 _ _ r1) r2 (RW.mono (l1.trans l2) _ _ r) ?_
  cases hg : g w1 w2 w AH2 with
  | none => rw [hg] at q2; exact q2.elim
  | some AH3 => rw [hg] at q2; exact fun H3 l3 s3 => q2 ι2 σ H3 l3 s3 (re.mono ((l1.trans l2).trans l3))
/-- nothing but a store -/
def nxo (g : W → MS) (w : W) : MS := fun e h => match g w e h with
  | some (.ok .nx, e', h') => some (.ok .nx, e', h')
  | _ => none
theorem st_nxo {g : W → MS} : Stores (nxo g) := fun w e h f e' h' q => by
  unfold nxo at q
  split at q
  · cases q; rfl
  · cases q
theorem g_nxo {tg : Expr} {g : W → MS} (h : PGm X tg g) : PGm X tg (nxo g) := ⟨PG_imp h.pg fun v σ H Q ⟨ι, e, AH, w, re, s, r, q⟩ => by
  refine ⟨ι, e, AH, w, re, s, r, ?_⟩
  have q : OutS X.K (fun _ _ _ _ => False) ι H (match g w e AH with
    | some (.ok .nx, e', h') => some (.ok .nx, e', h')
    | _ => none) { nx := Q, rt := fun _ _ => False } := q
  match hm : g w e AH, q with
  | some (.ok .nx, e', h'), q => exact q⟩
/-! ### op= -/
def IpM (X : Cx) (op : Operator) (g : W → W → M W) : Prop := ∃ t, PIp X op t ∧ Keeps2 X t g
theorem ip_addI : IpM X .Add (gI (fun _ _ => True) fun i j => .int (i + j)) := ⟨_, ip_add, by
  have k := keeps_I0 (X := X) (f := fun i j => .int (i + j)) (fv := fun i j => .int (i + j)) fun _ _ _ _ => rfl
  exact fun Xx ι AH H w1 w2 v1 v2 Q s r1 r2 h => k Xx ι AH H w1 w2 v1 v2 Q s r1 r2 h⟩
theorem ip_subI : IpM X .Sub (gI (fun _ _ => True) fun i j => .int (i - j)) := ⟨_, ip_sub, by
  have k := keeps_I0 (X := X) (f := fun i j => .int (i - j)) (fv := fun i j => .int (i - j)) fun _ _ _ _ => rfl
  exact fun Xx ι AH H w1 w2 v1 v2 Q s r1 r2 h => k Xx ι AH H w1 w2 v1 v2 Q s r1 r2 h⟩
theorem s_aug {n : Nat} {x : Str} {op : Operator} {g : W → W → M W} (hN : X.N.Nodup) (hi : X.N[n]? = some x) (hx : Loc X.env.scope x) (he : PEm X Wx a ma) (ho : IpM X op g) (hf : X.fn x = true ∨ X.env.scope.names.lookup x = some .local := by first | exact .inl rfl | exact .inr rfl | assumption) :
    PSm X Wx (.AugAssign (.Name x pos') op a pos) (sAug n g ma) := by
  obtain ⟨t, ho, k⟩ := ho
  refine ⟨PS_imp (ps_aug hN hi hx he.pe ho hf) fun D σ H h => ?_⟩
  obtain ⟨ι, e, AH, re, s, h⟩ := h
  unfold sAug at h
  have h1 := out_eS (R := RW X.K) re h
  cases hv : e[n]? with
  | none =>
    have : mVar n e AH = none := by unfold mVar; rw [hv]
    rw [this] at h1; exact h1.elim
  | some ow =>
    cases ow with
    | none =>
      have : mVar n e AH = none := by unfold mVar; rw [hv]
      rw [this] at h1; exact h1.elim
    | some w =>
      obtain ⟨v, ev, rv⟩ := re.get n w hv
      have : mVar n e AH = some (.ok w, AH) := by unfold mVar; rw [hv]
      unfold eS at h
      simp only [this] at h
      obtain q := out_eS (R := RW X.K) (m := ma) (k := fun y => eS (fun _ => g w y) fun z => gNm n z) re h
      refine ⟨v, ev, ι, e, AH, re, s, q.imp fun v1 H1 ⟨ι1, w1, AH1, l1, s1, r1, q1⟩ => ?_⟩
      obtain q1 := out_eS (R := RW X.K) (m := fun _ => g w w1) (re.mono l1) q1
      refine k (wx Wx σ) ι1 AH1 H1 w w1 v v1 _ s1 (RW.mono l1 _ _ rv) r1 (q1.imp fun v2 H2 ⟨ι2, w2, AH2, l2, s2, r2, q2⟩ => ?_)
      exact q2 ι2 _ H2 Le.refl s2 ((re.mono (l1.trans l2)).set r2)
end
end Z
namespace Z
open PySem PySem.Spec PyProof.Rows L2
section
variable {P : Program} {w : World} {K : PySem.W.Frag} {mg mb : Str → Option Value} {k : Nat} {fa a : Addr} {fd : FuncData} {x : Str} {F : List W → M W} {st : Shared} {vals : List Value} {ns : List Int}
/-- the law's answer from one reading of the script -/
abbrev Won (P : Program) (w : World) (st : Shared) (fa a : Addr) : Prop := codeAny (model P w) callerA (.call (.ref fa) ⟨[.ref a], []⟩) (fun r t => r = .ok (.ret (.bool true)) ∧ OldK st.heap t.heap ∧ t.os = st.os ∧ AllBare t.gens) st
/-- F answers True at that script -/
def WinF (F : List W → M W) (ns : List Int) : Prop := ∃ h', F [.cl (ns.map W.int)] [] = some (.ok (.bl true), h')
theorem rws_ints {ι : List Addr} {H : Hp} : ∀ ns : List Int, RWs K ι H (ns.map W.int) (ns.map V.int)
  | [] => RWs.nl
  | i :: r => RWs.mk (show V.int i = V.int i from rfl) (rws_ints r)
theorem won_of (inK : K.In st.heap) (gl : st.heap.Ns mainGlobals mg) (bl : st.heap.Ns builtinsNs mb) (bb : ∀ y : Str, y ≠ "__name__" → mb y = bootBuiltins y) (nl : st.heap.NoLimit) (ng : st.gens = #[])
    (ob : st.heap.get? a = some { cls := .type "list", data := .seq vals.toArray }) (hi : IntsAre vals ns) (hl : ns.length ≤ sizeLine) (hr : Room k callerA)
    (G : ∀ base : Heap, K.In base → base.Ns mainGlobals mg → FM P w K mg base k fa fd [x] F) (hb : ∀ (s : Shared) (u : Value), BindsTo s fd ⟨[u], []⟩ [(x, u)]) (win : WinF F ns) : Won P w st fa a := by
  have rvals : Vals (ns.map V.int) vals := vals_ints hi
  obtain ⟨hEnd, win⟩ := win
  -- H: where at most the script stands
  have step : ∀ H : Hp, CL K H a (ns.map V.int) → HOk P w H st.heap → (∀ b, H b ≠ none → b = a ∧ K.lookup a = none ∧ ∃ o xs, H b = some (.frz o (.lst xs))) → Won P w st fa a := by
    intro H cl ok one
    have lone : ∀ {b : Addr} {o : Obj}, st.heap.get? b = some o → ((∃ es ep, o.data = .dict es ep) ∨ K.lookup b = some o) → H b = none := by
      intro b o e h
      by_cases q : H b = none
      · exact q
      · obtain ⟨rfl, hk, _⟩ := one b q
        rcases h with ⟨es, ep, d⟩ | h
        · rw [ob] at e; cases e; cases d
        · rw [hk] at h; cases h
    have inB : K.In (hidT st.heap H) := fun b o e => hidT_get (inK b o e) (lone (inK b o e) (.inr e))
    have ns_ : ∀ {b : Addr} {m : Str → Option Value}, st.heap.Ns b m → (hidT st.heap H).Ns b m := fun ⟨o, es, ep, e, d, r⟩ => ⟨o, es, ep, hidT_get e (lone e (.inl ⟨es, ep, d⟩)), d, r⟩
    have md : Mod K mg (hidT st.heap H) := by
      obtain ⟨mc, n1, n2⟩ := nl
      exact ⟨inB, ns_ gl, ⟨mb, ns_ bl, bb⟩, ⟨mc, ns_ n1, n2⟩⟩
    have start : Env0 P w K mg (hidT st.heap H) callerA [] st H := by
      refine ⟨rfl, md, fun b o e => of_hidT e, Nat.le_of_eq (hidT_size _ _), trivial, ?_, ok, .of_eq ng⟩
      intro b hb
      exact absurd (show b ∈ ([] : List Addr) from hb) (by simp)
    have sr : Sr K [] H [] := ⟨rfl, List.nodup_nil, fun n b o h1 h2 => by simp at h1⟩
    have rw1 : RWs K [] H [.cl (ns.map W.int)] [.ref a] := RWs.mk (show ∃ b vs, V.ref a = .ref b ∧ CL K H b vs ∧ RWs K [] H (ns.map W.int) vs from ⟨a, _, rfl, cl, rws_ints ns⟩) RWs.nl
    have sp : spM K [x].length F [.ref a] H (fun v _ => v = .bl true) (fun _ _ _ => False) := by
      refine ⟨rfl, [], _, [], rw1, sr, ?_⟩
      rw [win]
      exact fun ι' v H' l s r => r
    have run := (G _ inB (ns_ gl)).go callerA [] st H ⟨[.ref a], []⟩ [.ref a] [.ref a] _ _ hr rfl start (hb st (.ref a)) (.cons rfl .nil) sp
    refine codeAny_mono run fun r t h => ?_
    cases r with
    | error e =>
      obtain ⟨_, _, _, _, _, _, _, _, _, _, _, _, hF⟩ := id h
      first | exact hF.elim | exact hF.2.elim
    | ok fl =>
      cases fl with
      | next => exact h.elim
      | brk => exact h.elim
      | cont => exact h.elim
      | ret u =>
        obtain ⟨v, H2, os, bare, un, ok2, rv, hv⟩ := h
        have hv : v = .bl true := hv
        subst hv
        cases (show u = Value.bool true from rv)
        refine ⟨rfl, OldK.of_keep fun b o e => ?_, os, bare⟩
        by_cases q : H b = none
        · exact un.keep b o e q (fun z => absurd (show b ∈ ([] : List Addr) from z) (by simp)) (by simp)
        · obtain ⟨_, _, c, xs, z⟩ := one b q
          have z : H b = some (.frz c (.lst xs)) := z
          have l1 := (ok b _ z).1
          rw [e] at l1
          cases l1
          exact (ok2 b _ (un.frzs b _ _ z)).1
  by_cases hk : K.lookup a = none
  · -- the script is a thing of its own
    let H : Hp := fun b => if b = a then some (.frz { cls := .type "list", data := .seq vals.toArray } (.lst (ns.map V.int))) else none
    have here : H a = some (.frz { cls := .type "list", data := .seq vals.toArray } (.lst (ns.map V.int))) := if_pos rfl
    have only : ∀ b u, H b = some u → b = a ∧ u = .frz { cls := .type "list", data := .seq vals.toArray } (.lst (ns.map V.int)) := fun b u z => by
      by_cases e : b = a
      · subst e; rw [here] at z; cases z; exact ⟨rfl, rfl⟩
      · rw [show H b = none from if_neg e] at z; cases z
    refine step H (.inl ⟨_, here⟩) (fun b u z => ?_) fun b q => ?_
    · obtain ⟨rfl, rfl⟩ := only b u z
      exact ⟨ob, by rw [List.length_map]; exact hl, vals, _, rvals, ob⟩
    · obtain ⟨u, z⟩ := Option.ne_none_iff_exists'.mp q
      obtain ⟨rfl, rfl⟩ := only b u z
      exact ⟨rfl, hk, _, _, z⟩
  · -- it is one of the module's things
    obtain ⟨o, e⟩ := Option.ne_none_iff_exists'.mp hk
    have e2 := inK a o e
    rw [ob] at e2
    cases e2
    have sz : vals.toArray.size ≤ sizeLine := by rw [List.size_toArray, hi.length]; exact hl
    exact step (fun _ => none) (.inr ⟨_, vals.toArray, _, e, rfl, rfl, rfl, sz, by simpa using rvals⟩) (fun b u z => by cases z) fun b q => absurd rfl q
end
/-- the end of a law's row -/
theorem walk_G {l : PySem.W.OpenLaw} {n k : Nat} {q : Program} {loose : List Str} {XP : (Str → Option Value) → Heap → Prop} {YP : World → Heap → Prop} {d : DefRec} {x : Str}
    (hn : l.most = some n) (hn2 : n ≤ sizeLine) (hdf : d.params.defaults = []) (hr : Room k callerA)
    (F : ∀ (w : World) (mg : Str → Option Value) (fa : Addr) (h : Heap), YP w h → h.Ns mainGlobals mg → mg d.name = some (.ref fa) →
      ∃ (K : PySem.W.Frag) (fd : FuncData) (f : List W → M W), K.In h ∧ (∀ (s : Shared) (u : Value), BindsTo s fd ⟨[u], []⟩ [(x, u)]) ∧ (∀ ns : List Int, ns.length ≤ n → WinF f ns) ∧
        ∀ base : Heap, K.In base → base.Ns mainGlobals mg → FM l.prog w K mg base k fa fd [x] f) : PySem.W.WalkO q loose XP YP l.row.toRowW d [] (fun f vs => PySem.call f vs) := by
  refine Att.attach_call hn hdf fun w s0 s1 mg mb fa o pm cd doc a vals ns G Y ho hd hcd hmg hobj hints hlen ng => ?_
  obtain ⟨K, fd, f, inK, hb, win, hF⟩ := F w mg fa _ Y G.T.g hmg
  exact won_of inK G.T.g G.T.b G.T.builtins G.T.nolimit ng hobj hints (Nat.le_trans hlen hn2) hr hF hb (win ns hlen)
end Z
/-! The plain side: what a reading answers, by wishes. -/
namespace Z
open PySem L2
abbrev XH := AX → Hv → Prop
def wE {α : Type} (r : Rs α) (Q : α → Hv → Prop) (X : XH) : Prop := match r with
  | none => False
  | some (.ok a, h) => Q a h
  | some (.error x, h) => X x h
def wS (r : Option (Except AX Fl × Ev × Hv)) (N : Ev → Hv → Prop) (T : W → Hv → Prop) (X : XH) (B C : Ev → Hv → Prop) : Prop := match r with
  | none => False
  | some (.ok .nx, e, h) => N e h
  | some (.ok .bk, e, h) => B e h
  | some (.ok .ct, e, h) => C e h
  | some (.ok (.rt w), _, h) => T w h
  | some (.error x, _, h) => X x h
def nE : Ev → Hv → Prop := fun _ _ => False
def nT : W → Hv → Prop := fun _ _ => False
def nX : XH := fun _ _ => False
section
variable {α β : Type} {e : Ev} {h : Hv} {Q : α → Hv → Prop} {X : XH} {N N' B B' C C' : Ev → Hv → Prop} {T T' : W → Hv → Prop} {X' : XH}
theorem wE.imp {r : Rs α} {Q' : α → Hv → Prop} (a : wE r Q X) (f : ∀ x h, Q x h → Q' x h) : wE r Q' X := by
  unfold wE at a ⊢
  split at a
  · exact a
  · exact f _ _ a
  · exact a
theorem wE_some {r : Rs α} (a : wE r Q fun _ _ => False) : ∃ x h', r = some (.ok x, h') ∧ Q x h' := by
  unfold wE at a
  split at a
  · exact a.elim
  · exact ⟨_, _, rfl, a⟩
  · exact a.elim
theorem wE_of {r : Rs α} {x : α} {h' : Hv} (e : r = some (.ok x, h')) (q : Q x h') : wE r Q X := by rw [e]; exact q
theorem wbnd {m : M α} {k : α → M β} {Q : β → Hv → Prop} (a : wE (m h) (fun x h1 => wE (k x h1) Q X) X) : wE (bnd m k h) Q X := by
  unfold bnd
  match hm : m h, a with
  | some (.ok x, h1), a => exact a
  | some (.error x, h1), a => exact a
theorem wbE {m : ME α} {k : α → ME β} {Q : β → Hv → Prop} (a : wE (m e h) (fun x h1 => wE (k x e h1) Q X) X) : wE (bE m k e h) Q X := wbnd a
variable {Q : W → Hv → Prop} {QL : List W → Hv → Prop} {QB : Bool → Hv → Prop} {ma mb mc : ME W} {ml : ME (List W)} {mt mt' : ME Bool}
theorem w_var {i : Nat} {w : W} (he : e[i]? = some (some w)) (q : Q w h) : wE (mVar i e h) Q X := by unfold mVar; rw [he]; exact q
theorem w_c {w : W} (q : Q w h) : wE (mC w e h) Q X := q
theorem w_b2 {g : W → W → M W} (a : wE (ma e h) (fun x h1 => wE (mb e h1) (fun y h2 => wE (g x y h2) Q X) X) X) : wE (mB2 g ma mb e h) Q X := wbE (a.imp fun _ _ q => wbE q)
theorem w_u1 {g : W → M W} (a : wE (ma e h) (fun x h1 => wE (g x h1) Q X) X) : wE (mU1 g ma e h) Q X := wbE a
theorem w_gI {C : Int → Int → Prop} [∀ i j, Decidable (C i j)] {f : Int → Int → W} {i j : Int} (c : C i j) (q : Q (f i j) h) : wE (gI C f (.int i) (.int j) h) Q X := by
  unfold gI; simp only [asI]; rw [if_pos c]; exact q
theorem w_add {i j : Int} (q : Q (.int (i + j)) h) : wE (addM (.int i) (.int j) h) Q X := w_gI (C := fun _ _ => True) (f := fun i j => .int (i + j)) trivial q
theorem w_sub {i j : Int} (q : Q (.int (i - j)) h) : wE (subM (.int i) (.int j) h) Q X := w_gI (C := fun _ _ => True) (f := fun i j => .int (i - j)) trivial q
theorem w_mul {i j : Int} (c : CMul i j) (q : Q (.int (i * j)) h) : wE (mulM (.int i) (.int j) h) Q X := w_gI (C := CMul) (f := fun i j => .int (i * j)) c q
theorem w_fdiv {i j : Int} (c : CDiv i j) (q : Q (.int (i / j)) h) : wE (fdivM (.int i) (.int j) h) Q X := w_gI (C := CDiv) (f := fun i j => .int (i / j)) c q
theorem w_mod {i j : Int} (c : 0 < j) (q : Q (.int (i % j)) h) : wE (modM (.int i) (.int j) h) Q X := w_gI (C := fun _ j => 0 < j) (f := fun i j => .int (i % j)) c q
theorem w_pow {i j : Int} (c : CPow i j) (q : Q (.int (i ^ j.toNat)) h) : wE (powM (.int i) (.int j) h) Q X := w_gI (C := CPow) (f := fun i j => .int (i ^ j.toNat)) c q
theorem w_fdiv' {i j : Int} (c : 0 < j) (c2 : j < 1073741824) (q : Q (.int (i / j)) h) : wE (fdivM (.int i) (.int j) h) Q X := w_fdiv ⟨c, c2⟩ q
theorem w_mulL {i j : Int} (c : -(2 ^ 64) < i) (c2 : i < 2 ^ 64) (q : Q (.int (i * j)) h) : wE (mulM (.int i) (.int j) h) Q X := w_mul (.inl ⟨c, c2⟩) q
theorem w_mulR {i j : Int} (c : -(2 ^ 64) < j) (c2 : j < 2 ^ 64) (q : Q (.int (i * j)) h) : wE (mulM (.int i) (.int j) h) Q X := w_mul (.inr ⟨c, c2⟩) q
theorem w_pow' {i j : Int} (c : 0 ≤ j) (c1 : j ≤ 1000000) (c2 : i.natAbs < 2 ^ 64) (q : Q (.int (i ^ j.toNat)) h) : wE (powM (.int i) (.int j) h) Q X := w_pow ⟨c, c1, c2⟩ q
theorem w_lt {i j : Int} (q : Q (.bl (decide (i < j))) h) : wE (ltM (.int i) (.int j) h) Q X := w_gI (C := fun _ _ => True) (f := fun i j => .bl (decide (i < j))) trivial q
theorem w_le {i j : Int} (q : Q (.bl (decide (i ≤ j))) h) : wE (leM (.int i) (.int j) h) Q X := w_gI (C := fun _ _ => True) (f := fun i j => .bl (decide (i ≤ j))) trivial q
theorem w_gt {i j : Int} (q : Q (.bl (decide (j < i))) h) : wE (gtM (.int i) (.int j) h) Q X := w_gI (C := fun _ _ => True) (f := fun i j => .bl (decide (j < i))) trivial q
theorem w_ge {i j : Int} (q : Q (.bl (decide (j ≤ i))) h) : wE (geM (.int i) (.int j) h) Q X := w_gI (C := fun _ _ => True) (f := fun i j => .bl (decide (j ≤ i))) trivial q
theorem w_neg {i : Int} (q : Q (.int (-i)) h) : wE (negM (.int i) h) Q X := q
theorem w_nil (q : QL [] h) : wE (mNil e h) QL X := q
theorem w_cons (a : wE (ma e h) (fun w h1 => wE (ml e h1) (fun ws h2 => QL (w :: ws) h2) X) X) : wE (mCons ma ml e h) QL X := wbE (a.imp fun _ _ q => wbE q)
theorem w_G {g : List W → M W} (a : wE (ml e h) (fun ws h1 => wE (g ws h1) Q X) X) : wE (mG g ml e h) Q X := wbE a
theorem w_F {n : Nat} {F : List W → M W} (a : wE (ml e h) (fun ws h1 => ws.length = n ∧ wE (F ws h1) Q X) X) : wE (mF n F ml e h) Q X := wbE (a.imp fun _ _ q => by rw [if_pos q.1]; exact q.2)
theorem w_Kw {n m : Nat} {F : List W → M W} {sel : List Nat} {dws : List W} {mk : ME (List W)} (a : wE (ml e h) (fun ws h1 => wE (mk e h1) (fun zs h2 => (ws.length = n ∧ zs.length = m) ∧ wE (F (pick sel (ws ++ zs ++ dws)) h2) Q X) X) X) : wE (mKw n m F sel dws ml mk e h) Q X :=
  wbE (a.imp fun _ _ q => wbE (q.imp fun _ _ q => by rw [if_pos q.1]; exact q.2))
theorem w_tup (a : wE (ml e h) (fun ws h1 => ws.length ≤ sizeLine ∧ Q (.tup ws) h1) X) : wE (mTup ml e h) Q X := wbE (a.imp fun _ _ q => by rw [if_pos q.1]; exact q.2)
theorem w_lst (a : wE (ml e h) (fun ws h1 => ws.length ≤ sizeLine ∧ Q (.ref h1.length) (h1 ++ [.lst ws])) X) : wE (mLst ml e h) Q X := wbE (a.imp fun _ _ q => by rw [if_pos q.1]; exact q.2)
theorem w_ix {x : W} {ws : List W} {i : Int} {w : W} (e1 : seqLT h x = some ws) (e2 : atI ws i = some w) (q : Q w h) : wE (ixM x (.int i) h) Q X := by
  unfold ixM; simp only [asI, e1, e2]; exact q
theorem w_ixT {ws : List W} {i : Int} {w : W} (e2 : atI ws i = some w) (q : Q w h) : wE (ixM (.tup ws) (.int i) h) Q X := w_ix rfl e2 q
theorem w_ixC {ws : List W} {i : Int} {w : W} (e2 : atI ws i = some w) (q : Q w h) : wE (ixM (.cl ws) (.int i) h) Q X := w_ix rfl e2 q
theorem w_test (a : wE (ma e h) (fun w h1 => ∃ b, w = .bl b ∧ QB b h1) X) : wE (mTest ma e h) QB X := wbE (a.imp fun w h1 q => by obtain ⟨b, rfl, q⟩ := q; exact q)
theorem w_notT (a : wE (mt e h) (fun b h1 => QB (!b) h1) X) : wE (mNotT mt e h) QB X := wbE (a.imp fun _ _ q => q)
theorem w_andT (a : wE (mt e h) (fun b h1 => (b = true → wE (mt' e h1) QB X) ∧ (b = false → QB false h1)) X) : wE (mAndT mt mt' e h) QB X := wbE (a.imp fun b _ q => by
  cases b with
  | true => exact q.1 rfl
  | false => exact q.2 rfl)
theorem w_orT (a : wE (mt e h) (fun b h1 => (b = false → wE (mt' e h1) QB X) ∧ (b = true → QB true h1)) X) : wE (mOrT mt mt' e h) QB X := wbE (a.imp fun b _ q => by
  cases b with
  | true => exact q.2 rfl
  | false => exact q.1 rfl)
theorem w_andV (a : wE (ma e h) (fun w h1 => ∃ b, w = .bl b ∧ (b = true → wE (mb e h1) Q X) ∧ (b = false → Q (.bl false) h1)) X) : wE (mAndV ma mb e h) Q X := wbE (a.imp fun w _ q => by
  obtain ⟨b, rfl, q⟩ := q
  cases b with
  | true => exact q.1 rfl
  | false => exact q.2 rfl)
theorem w_orV (a : wE (ma e h) (fun w h1 => ∃ b, w = .bl b ∧ (b = false → wE (mb e h1) Q X) ∧ (b = true → Q (.bl true) h1)) X) : wE (mOrV ma mb e h) Q X := wbE (a.imp fun w _ q => by
  obtain ⟨b, rfl, q⟩ := q
  cases b with
  | true => exact q.2 rfl
  | false => exact q.1 rfl)
theorem w_notV (a : wE (ma e h) (fun w h1 => ∃ b, w = .bl b ∧ Q (.bl (!b)) h1) X) : wE (mNotV ma e h) Q X := wbE (a.imp fun w _ q => by obtain ⟨b, rfl, q⟩ := q; exact q)
theorem w_if (a : wE (mt e h) (fun b h1 => (b = true → wE (ma e h1) Q X) ∧ (b = false → wE (mb e h1) Q X)) X) : wE (mIf mt ma mb e h) Q X := wbE (a.imp fun b _ q => by
  cases b with
  | true => exact q.1 rfl
  | false => exact q.2 rfl)
theorem w_abs {i : Int} (q : Q (.int (if i < 0 then -i else i)) h) : wE (absM [.int i] h) Q X := q
theorem w_max2 {i j : Int} (q : Q (.int (if j > i then j else i)) h) : wE (max2M [.int i, .int j] h) Q X := w_gI (C := fun _ _ => True) (f := fun i j => .int (if j > i then j else i)) trivial q
theorem w_min2 {i j : Int} (q : Q (.int (if j < i then j else i)) h) : wE (min2M [.int i, .int j] h) Q X := w_gI (C := fun _ _ => True) (f := fun i j => .int (if j < i then j else i)) trivial q
theorem w_len {w : W} {ws : List W} (e1 : seqLT h w = some ws) (q : Q (.int ws.length) h) : wE (lenM [w] h) Q X := by
  cases w with
  | tup l => cases e1; exact q
  | cl l => cases e1; exact q
  | ref n =>
    have e2 : seqLT h (.ref n) = lstAt h n := rfl
    rw [e2] at e1
    have l := lstAt_eq e1
    unfold lenM one
    simp only [lenDM, lenLM, mdk, dkAt, l, seqLT, e1]
    exact q
  | _ => cases e1
/-! ### statements -/
variable {m k : MS}
theorem wS.imp {r : Option (Except AX Fl × Ev × Hv)} (a : wS r N T X B C) (f1 : ∀ e h, N e h → N' e h) (f2 : ∀ w h, T w h → T' w h) (f3 : ∀ x h, X x h → X' x h) (f4 : ∀ e h, B e h → B' e h) (f5 : ∀ e h, C e h → C' e h) : wS r N' T' X' B' C' := by
  unfold wS at a ⊢
  split at a
  · exact a
  · exact f1 _ _ a
  · exact f4 _ _ a
  · exact f5 _ _ a
  · exact f2 _ _ a
  · exact f3 _ _ a
theorem x_nx (q : N e h) : wS (sNx e h) N T X B C := q
theorem x_bk (q : B e h) : wS (sBk e h) N T X B C := q
theorem x_ct (q : C e h) : wS (sCt e h) N T X B C := q
theorem x_rt {w : W} (q : T w h) : wS (sRt w e h) N T X B C := q
theorem x_seq (a : wS (m e h) (fun e1 h1 => wS (k e1 h1) N T X B C) T X B C) : wS (sSeq m k e h) N T X B C := by
  unfold sSeq
  match hm : m e h, a with
  | some (.ok .nx, e1, h1), a => exact a
  | some (.ok .bk, e1, h1), a => exact a
  | some (.ok .ct, e1, h1), a => exact a
  | some (.ok (.rt w), e1, h1), a => exact a
  | some (.error x, e1, h1), a => exact a
theorem x_seqI (P : Ev → Hv → Prop) (a : wS (m e h) P T X B C) (b : ∀ e h, P e h → wS (k e h) N T X B C) : wS (sSeq m k e h) N T X B C := x_seq (a.imp b (fun _ _ q => q) (fun _ _ q => q) (fun _ _ q => q) fun _ _ q => q)
theorem x_eS {m : ME α} {k : α → MS} (a : wE (m e h) (fun x h1 => wS (k x e h1) N T X B C) X) : wS (eS m k e h) N T X B C := by
  unfold eS
  match hm : m e h, a with
  | some (.ok x, h1), a => exact a
  | some (.error x, h1), a => exact a
theorem x_exp (a : wE (ma e h) (fun _ h1 => N e h1) X) : wS (sExp ma e h) N T X B C := x_eS a
theorem x_ret (a : wE (ma e h) (fun w h1 => T w h1) X) : wS (sRet ma e h) N T X B C := x_eS a
theorem x_if (a : wE (mt e h) (fun b h1 => (b = true → wS (m e h1) N T X B C) ∧ (b = false → wS (k e h1) N T X B C)) X) : wS (sIf mt m k e h) N T X B C := x_eS (a.imp fun b _ q => by
  cases b with
  | true => exact q.1 rfl
  | false => exact q.2 rfl)
theorem x_asg {g : W → MS} (a : wE (ma e h) (fun w h1 => wS (g w e h1) N T X B C) X) : wS (sAsg ma g e h) N T X B C := x_eS a
theorem x_nm {i : Nat} {w : W} (q : N (e.set i (some w)) h) : wS (gNm i w e h) N T X B C := q
theorem x_tp {n : Nat} {g : List W → MS} {ws : List W} (hn : ws.length = n) (a : wS (g ws e h) N T X B C) : wS (gTp n g (.tup ws) e h) N T X B C := by
  unfold gTp; simp only [asT]; rw [if_pos hn]; exact a
theorem x_gnil (q : N e h) : wS (gsNil [] e h) N T X B C := q
theorem x_gcons {g : W → MS} {gk : List W → MS} {w : W} {r : List W} (a : wS (g w e h) (fun e1 h1 => wS (gk r e1 h1) N T X B C) T X B C) : wS (gsCons g gk (w :: r) e h) N T X B C := x_seq a
theorem x_nxo {g : W → MS} {w : W} (a : wS (g w e h) N nT nX nE nE) : wS (nxo g w e h) N T X B C := by
  unfold nxo
  match hm : g w e h, a with
  | some (.ok .nx, e1, h1), a => exact a
theorem x_subM {g : W → W → W → Hv → Option Hv} {mo mi : ME W} {z : W} (a : wE (mo e h) (fun x h1 => wE (mi e h1) (fun y h2 => ∃ h3, g x y z h2 = some h3 ∧ N e h3) X) X) : wS (gSubM g mo mi z e h) N T X B C :=
  x_eS (a.imp fun x h1 a => x_eS (a.imp fun y h2 q => by
    obtain ⟨h3, e3, q⟩ := q
    show wS (match g x y z h2 with
      | some h' => some (.ok .nx, e, h')
      | none => none) N T X B C
    rw [e3]; exact q))
theorem x_aug {i : Nat} {g : W → W → M W} {w : W} (he : e[i]? = some (some w)) (a : wE (ma e h) (fun y h1 => wE (g w y h1) (fun z h2 => N (e.set i (some z)) h2) X) X) : wS (sAug i g ma e h) N T X B C :=
  x_eS (w_var he (x_eS (a.imp fun y h1 q => x_eS (m := fun _ => g w y) q)))
theorem ifP_wS {c : Prop} {r : Option (Except AX Fl × Ev × Hv)} (hc : c) (a : wS r N T X B C) : wS (ifP c r) N T X B C := by rw [ifP_pos hc]; exact a
/-- a loop, by an invariant at what is done -/
theorem x_loop {ok : Hv → Prop} {g : W → MS} {mb : MS} (Inv : Nat → Ev → Hv → Prop) {ws : List W} (h0 : Inv 0 e h)
    (turn : ∀ i w e h, ws[i]? = some w → Inv i e h → ok h ∧ wS (g w e h) (fun e1 h1 => wS (mb e1 h1) (Inv (i + 1)) T X N (Inv (i + 1))) nT nX nE nE)
    (done : ∀ e h, Inv ws.length e h → ok h ∧ N e h) : wS (loopL ok g mb ws e h) N T X B C := by
  suffices H : ∀ (l : List W) (i : Nat) (e : Ev) (h : Hv), ws.drop i = l → Inv i e h → i ≤ ws.length → wS (loopL ok g mb l e h) N T X B C from H ws 0 e h rfl h0 (Nat.zero_le _)
  intro l
  induction l with
  | nil =>
    intro i e h hd hi hl
    have : i = ws.length := by
      have := congrArg List.length hd
      simp at this; omega
    subst this
    obtain ⟨a, b⟩ := done e h hi
    exact ifP_wS a b
  | cons w r ih =>
    intro i e h hd hi hl
    have hw : ws[i]? = some w := by
      have := congrArg (·[0]?) hd
      simpa using this
    have hlt : i < ws.length := (List.getElem?_eq_some_iff.mp hw).1
    have hr : ws.drop (i + 1) = r := by
      have := congrArg (List.drop 1) hd
      simpa [List.drop_drop] using this
    obtain ⟨a, b⟩ := turn i w e h hw hi
    refine ifP_wS a ?_
    match hg : g w e h, b with
    | some (.ok .nx, e1, h1), b =>
      have b : wS (mb e1 h1) (Inv (i + 1)) T X N (Inv (i + 1)) := b
      show wS (match mb e1 h1 with
        | some (.ok .nx, e2, h2) => loopL ok g mb r e2 h2
        | some (.ok .ct, e2, h2) => loopL ok g mb r e2 h2
        | some (.ok .bk, e2, h2) => some (.ok .nx, e2, h2)
        | q => q) N T X B C
      match hm : mb e1 h1, b with
      | some (.ok .nx, e2, h2), b => exact ih (i + 1) e2 h2 hr b hlt
      | some (.ok .ct, e2, h2), b => exact ih (i + 1) e2 h2 hr b hlt
      | some (.ok .bk, e2, h2), b => exact b
      | some (.ok (.rt z), e2, h2), b => exact b
      | some (.error x, e2, h2), b => exact b
theorem x_forR {g : W → MS} {mb : MS} (Inv : Nat → Ev → Hv → Prop)
    (a : wE (ml e h) (fun ws h1 => ∃ j : Int, ws = [.int j] ∧ (-(2 ^ 62) ≤ j ∧ j < 2 ^ 62) ∧ Inv 0 e h1 ∧
      (∀ (i : Nat) e h, (i : Int) < j → Inv i e h → wS (g (.int i) e h) (fun e1 h1 => wS (mb e1 h1) (Inv (i + 1)) T X N (Inv (i + 1))) nT nX nE nE) ∧ ∀ e h, Inv j.toNat e h → N e h) X) : wS (sForR ml g mb e h) N T X B C := by
  unfold sForR
  refine x_eS (a.imp fun ws h1 q => ?_)
  obtain ⟨j, rfl, c, i0, turn, done⟩ := q
  refine ifP_wS c (x_loop Inv i0 (fun i w e h hw hi => ⟨trivial, ?_⟩) fun e h hi => ⟨trivial, done e h ?_⟩)
  · have hl : i < (intsFrom 0 j.toNat).length := (List.getElem?_eq_some_iff.mp hw).1
    have len : (intsFrom 0 j.toNat).length = j.toNat := by simp [intsFrom]
    have hw2 : w = .int (i : Int) := by
      have : (intsFrom 0 j.toNat)[i]? = some (.int ((0 : Int) + i)) := intsFrom_at (by omega)
      rw [this] at hw; cases hw; simp
    rw [hw2]
    exact turn i e h (by omega) hi
  · have len : (intsFrom 0 j.toNat).length = j.toNat := by simp [intsFrom]
    rw [len] at hi; exact hi
theorem x_forL {g : W → MS} {mb : MS} (Inv : Nat → Ev → Hv → Prop)
    (a : wE (ma e h) (fun w h1 => ∃ ws, seqL h1 w = some ws ∧ Inv 0 e h1 ∧
      (∀ i x e h, ws[i]? = some x → Inv i e h → seqL h w = some ws ∧ wS (g x e h) (fun e1 h1 => wS (mb e1 h1) (Inv (i + 1)) T X N (Inv (i + 1))) nT nX nE nE) ∧ ∀ e h, Inv ws.length e h → seqL h w = some ws ∧ N e h) X) : wS (sForL ma g mb e h) N T X B C := by
  unfold sForL
  refine x_eS (a.imp fun w h1 q => ?_)
  obtain ⟨ws, hs, i0, turn, done⟩ := q
  show wS ((match seqL h1 w with
    | some ws => loopL (fun h' => seqL h' w = some ws) g mb ws e h1
    | none => none)) N T X B C
  rw [hs]
  exact x_loop Inv i0 (fun i x e h hw hi => turn i x e h hw hi) done
theorem w_runB {n : Nat} {m : MS} {ws : List W} (a : wS (m (ws.map some ++ List.replicate (n - ws.length) none) h) (fun _ h => Q .non h) Q X nE nE) : wE (runB n m ws h) Q X := by
  unfold runB
  match hm : m (ws.map some ++ List.replicate (n - ws.length) none) h, a with
  | some (.ok .nx, e1, h1), a => exact a
  | some (.ok (.rt w), e1, h1), a => exact a
  | some (.error x, e1, h1), a => exact a
end
/-! ### the heap -/
section
variable {h : Hv} {n : Nat} {o v : AO} {ws : List W}
theorem at_app (e : h[n]? = some v) : (h ++ [o])[n]? = some v := by rw [List.getElem?_append_left (List.getElem?_eq_some_iff.mp e).1]; exact e
theorem at_new : (h ++ [o])[h.length]? = some o := by simp
theorem at_set (e : h[n]? = some v) : (h.set n o)[n]? = some o := by rw [List.getElem?_set_self (List.getElem?_eq_some_iff.mp e).1]
theorem at_ne {k : Nat} (d : k ≠ n) (e : h[n]? = some v) : (h.set k o)[n]? = some v := by rw [List.getElem?_set_ne d]; exact e
theorem lstAt_of (e : h[n]? = some (.lst ws)) : lstAt h n = some ws := by unfold lstAt; rw [e]
theorem seqL_of (e : h[n]? = some (.lst ws)) : seqL h (.ref n) = some ws := lstAt_of e
theorem seqLT_of (e : h[n]? = some (.lst ws)) : seqLT h (.ref n) = some ws := lstAt_of e
theorem mlst_of (e : h[n]? = some (.lst ws)) : mlst h (.ref n) = some (n, ws) := by
  show (lstAt h n).map (fun ws => (n, ws)) = _
  rw [lstAt_of e]; rfl
theorem set_ok {i : Int} {j : Nat} {z : W} {P : Hv → Prop} (e1 : h[n]? = some (.lst ws)) (e2 : ixN ws.length i = some j) (q : P (h.set n (.lst (ws.set j z)))) : ∃ h3, setLM (.ref n) (.int i) z h = some h3 ∧ P h3 := by
  refine ⟨_, ?_, q⟩
  unfold setLM
  simp only [mlst_of e1, asI, e2]
theorem w_mb {t : BT} {g : W → List W → M W} {mo : ME W} {me : ME (List W)} {e : Ev} {Q : W → Hv → Prop} {X : XH} (a : wE (mo e h) (fun x h1 => t.ok h1 x = true ∧ wE (me e h1) (fun ws h2 => wE (g x ws h2) Q X) X) X) : wE (mMb t g mo me e h) Q X :=
  wbE (a.imp fun x h1 q => wbE (show wE (tyc t x h1) _ X by
    unfold tyc; rw [if_pos q.1]; exact wbE (q.2.imp fun _ _ q => q)))
theorem w_append {w : W} {Q : W → Hv → Prop} {X : XH} (e1 : h[n]? = some (.lst ws)) (c : ws.length < sizeLine) (q : Q .non (h.set n (.lst (ws ++ [w])))) : wE (appendM (.ref n) [w] h) Q X := by
  unfold appendM lst1
  simp only [mlst_of e1, one]
  rw [if_pos c]; exact q
theorem w_append' {mo : ME W} {me : ME (List W)} {e : Ev} {Q : W → Hv → Prop} {X : XH} (a : wE (mo e h) (fun x h1 => ∃ n l, x = .ref n ∧ h1[n]? = some (.lst l) ∧ wE (me e h1) (fun ws h2 => ∃ w l2, ws = [w] ∧ h2[n]? = some (.lst l2) ∧ l2.length < sizeLine ∧ Q .non (h2.set n (.lst (l2 ++ [w])))) X) X) : wE (mMb .lst appendM mo me e h) Q X :=
  w_mb (a.imp fun x h1 ⟨n, l, ex, hl, q⟩ => by
    subst ex
    refine ⟨?_, q.imp fun ws h2 ⟨w, l2, ew, h2l, c, q⟩ => ?_⟩
    · show (seqL h1 (.ref n)).isSome = true
      rw [seqL_of hl]; rfl
    · subst ew
      exact w_append h2l c q)
theorem at_new2 {a b : AO} : (h ++ [a] ++ [b])[h.length + 1]? = some b := by simp
theorem le_sz {n : Nat} (h : Nat.ble n 64 = true) : n ≤ sizeLine := Nat.le_trans (Nat.le_of_ble_eq_true h) (by decide)
theorem atI_n {α : Type} {ws : List α} {i : Nat} {w : α} (e : ws[i]? = some w) : atI ws (i : Int) = some w := by
  have hl := (List.getElem?_eq_some_iff.mp e).1
  unfold atI ixN
  rw [if_pos (by omega), if_pos (by omega)]
  simpa using e
theorem atI_int {α : Type} {ws : List α} {i : Int} {w : α} (h0 : 0 ≤ i) (e : ws[i.toNat]? = some w) : atI ws i = some w := by
  have := atI_n e
  rwa [Int.toNat_of_nonneg h0] at this
theorem at_lt (e : h[n]? = some v) : n < h.length := (List.getElem?_eq_some_iff.mp e).1
end
end Z
namespace Z
open PySem PyProof.Rows L2
/-! what repr shows is short -/
mutual
def bndD : PyData → Nat
  | .none => 4
  | .bool _ => 5
  | .int _ => 1921
  | .str x => (reprText x).length
  | .list xs => bndDs xs + 2
  | .tuple xs => bndDs xs + 3
  | .dict _ => 0
def bndDs : List PyData → Nat
  | [] => 0
  | x :: xs => bndD x + 2 + bndDs xs
end
theorem textFrom_le : ∀ (ts : List Str) (k : Nat) (acc : Str), (textFrom k acc ts).length ≤ acc.length + (ts.map fun t => t.length + 2).sum
  | [], k, acc => by simp [textFrom]
  | t :: ts, k, acc => by
    have ih := textFrom_le ts (k + 1) (acc ++ (if k > 0 then ", " else "" : String) ++ t)
    have e : (acc ++ (if k > 0 then ", " else "" : String) ++ t : Str).length ≤ acc.length + 2 + t.length := by
      rw [Str.length_append, Str.length_append]
      have : (((if k > 0 then ", " else "" : String) : Str)).length ≤ 2 := by split <;> decide
      omega
    show (textFrom (k + 1) (acc ++ (if k > 0 then ", " else "" : String) ++ t) ts).length ≤ _
    simp only [List.map_cons, List.sum_cons]
    omega
theorem join_le : ∀ ts : List Str, (Str.join ", " ts).length ≤ (ts.map fun t => t.length + 2).sum
  | [] => by simp [Str.join]; try decide
  | t :: ts => by
    have := join_length_add (t :: ts) (by simp)
    have e : ∀ l : List Str, piled l = (l.map fun t => t.length + 2).sum := fun l => by
      induction l with
      | nil => rfl
      | cons a l ih => simp [piled, ih]
    rw [e] at this
    omega
mutual
theorem shown_le : ∀ d : PyData, d.showable = true → d.hasDict = false → d.shown.length ≤ bndD d
  | .none, _, _ => by simp only [PyData.shown, bndD]; decide
  | .bool b, _, _ => by cases b <;> (simp only [PyData.shown, bndD]; decide)
  | .int i, h, _ => by
    simp only [PyData.shown, bndD]
    have h : i.natAbs.log2 < 1920 := by simpa [PyData.showable] using h
    have := int_text_length_le (k := 1920) (by decide) h
    rw [PySem.ofString_length]; exact this
  | .str x, _, _ => by simp only [PyData.shown, bndD]; exact Nat.le_refl _
  | .list xs, h, k => by
    have ih := shownAll_le xs (by simpa [PyData.showable] using h) (by simpa [PyData.hasDict] using k)
    have := textFrom_le (PyData.shownAll xs) 0 "["
    simp only [PyData.shown, bndD, listText]
    rw [Str.length_append]
    have e1 : (("[" : String) : Str).length = 1 := by decide
    have e2 : (("]" : String) : Str).length = 1 := by decide
    omega
  | .tuple xs, h, k => by
    have ih := shownAll_le xs (by simpa [PyData.showable] using h) (by simpa [PyData.hasDict] using k)
    have := join_le (PyData.shownAll xs)
    simp only [PyData.shown, bndD, tupleText]
    rw [Str.length_append, Str.length_append]
    have e1 : (("(" : Str)).length = 1 := by decide
    have e2 : (((if (PyData.shownAll xs).length == 1 then ",)" else ")" : String) : Str)).length ≤ 2 := by split <;> decide
    omega
  | .dict _, _, k => by simp [PyData.hasDict] at k
theorem shownAll_le : ∀ xs : List PyData, PyData.showableAll xs = true → PyData.hasDictAll xs = false → ((PyData.shownAll xs).map fun t => t.length + 2).sum ≤ bndDs xs
  | [], _, _ => by simp [PyData.shownAll, bndDs]
  | x :: xs, h, k => by
    have h : x.showable = true ∧ PyData.showableAll xs = true := by simpa [PyData.showableAll] using h
    have k : x.hasDict = false ∧ PyData.hasDictAll xs = false := by simpa [PyData.hasDictAll] using k
    have a := shown_le x h.1 k.1
    have b := shownAll_le xs h.2 k.2
    simp only [PyData.shownAll, bndDs, List.map_cons, List.sum_cons]
    omega
end
theorem reprOk_of {d : PyData} (h1 : d.showable = true) (h2 : d.hasDict = false) (h3 : d.depth ≤ 61) (h4 : bndD d ≤ sizeLine) : ReprOk d := ⟨h1, h2, h3, Nat.le_trans (shown_le d h1 h2) h4⟩
section
variable {h : Hv} {Q : W → Hv → Prop} {X : XH}
theorem w_repr {w : W} {d : PyData} (e : toD h 60 w = some d) (r : ReprOk d) (q : Q (.str d.shown) h) : wE (reprM [w] h) Q X := by
  unfold reprM one
  simp only [e]
  rw [if_pos r]; exact q
theorem w_eqD {x y : W} {d d' : PyData} (e : dOf h x = some d) (e' : dOf h y = some d') (b : bothS x y = false) (q : Q (.bl (PyData.eqv d d')) h) : wE (eqM x y h) Q X := by
  unfold eqM
  rw [if_neg (by rw [b]; exact Bool.false_ne_true)]
  unfold eqDM gD
  simp only [e, e']
  exact q
theorem w_neD {x y : W} {d d' : PyData} (e : dOf h x = some d) (e' : dOf h y = some d') (b : bothS x y = false) (q : Q (.bl (!PyData.eqv d d')) h) : wE (neM x y h) Q X := by
  unfold neM
  rw [if_neg (by rw [b]; exact Bool.false_ne_true)]
  unfold neDM gD
  simp only [e, e']
  exact q
theorem dOf_int {i : Int} : dOf h (.int i) = some (.int i) := rfl
theorem dOf_bl {i : Bool} : dOf h (.bl i) = some (.bool i) := rfl
theorem dOf_str {i : Str} (c : (PyData.str i).canLay0 = true) : dOf h (.str i) = some (.str i) := by
  show (if SeqAt.shaped (.str i) = true then some (PyData.str i) else none) = _
  rw [if_pos]
  unfold SeqAt.shaped
  rw [c]; rfl
theorem w_eqI {i j : Int} (q : Q (.bl (decide (i = j))) h) : wE (eqM (.int i) (.int j) h) Q X := w_eqD dOf_int dOf_int rfl q
theorem w_neI {i j : Int} (q : Q (.bl (!decide (i = j))) h) : wE (neM (.int i) (.int j) h) Q X := w_neD dOf_int dOf_int rfl q
theorem w_eqB {i j : Bool} (q : Q (.bl (i == j)) h) : wE (eqM (.bl i) (.bl j) h) Q X := w_eqD dOf_bl dOf_bl rfl q
theorem w_neB {i j : Bool} (q : Q (.bl (!(i == j))) h) : wE (neM (.bl i) (.bl j) h) Q X := w_neD dOf_bl dOf_bl rfl q
theorem w_eqS {i j : Str} (q : Q (.bl (decide (i = j))) h) : wE (eqM (.str i) (.str j) h) Q X := q
theorem w_neS {i j : Str} (q : Q (.bl (!decide (i = j))) h) : wE (neM (.str i) (.str j) h) Q X := q
theorem w_isi {isi : Value → Value → Option Bool} {x c : W} {t u : Value} {b : Bool} (e1 : tyW h x = some t) (e2 : clsW c = some u) (e3 : isi t u = some b) (q : Q (.bl b) h) : wE (isiM isi [x, c] h) Q X := by
  unfold isiM two
  simp only [e1, e2, e3]
  exact q
end
end Z
namespace Z
open PySem PyProof.Rows L2
section
variable {X : Cx} {Wx : WX} {pos p2 : Pos} {a b e lo hi : Expr} {ma mb me ml mh : ME W}
/-! ### slices -/
abbrev RO : List Addr → Hp → Option Int → Option Int → Prop := fun _ _ x y => x = y
structure POm (X : Cx) (Wx : WX) (o : Option Expr) (m : ME (Option Int)) : Prop where
  po : PO X o (tG X.K RO Wx m)
theorem PO_imp {o : Option Expr} {t t' : TO} (h : PO X o t) (f : ∀ σ H Q, t' σ H Q → t σ H Q) : PO X o t' := ⟨fun pins s σ H Q I q => h.run pins s σ H Q I (f σ H Q q)⟩
def mNo : ME (Option Int) := fun _ h => some (.ok none, h)
def mPart (m : ME W) : ME (Option Int) := bE m fun w => fun _ h => match asI w with
  | some i => some (.ok (some i), h)
  | none => none
theorem o_none : POm X Wx none mNo := ⟨PO_imp po_none fun σ H Q ⟨ι, e, AH, re, s, h⟩ => h ι none H Le.refl s rfl⟩
theorem o_some (h : PEm X Wx a ma) : POm X Wx (some a) (mPart ma) := ⟨PO_imp (po_some h.pe) fun σ H Q h => tG_bnd h fun ι1 w AH1 v H1 e re s1 r1 q => by
  cases e1 : asI w with
  | none => simp only [e1] at q; exact q.elim
  | some i =>
    simp only [e1] at q
    cases asI_eq e1
    exact ⟨i, rw_int r1, q ι1 (some i) H1 Le.refl s1 rfl⟩⟩
def cutW (xs : List W) (lo hi : Option Int) : List W := (xs.drop (HT.sIx xs.length 0 lo)).take (HT.sIx xs.length xs.length hi - HT.sIx xs.length 0 lo)
theorem RWs.cut {K : PySem.W.Frag} {ι : List Addr} {H : Hp} {ws : List W} {vs : List V} {lo hi : Option Int} (r : RWs K ι H ws vs) : RWs K ι H (cutW ws lo hi) (cutV vs lo hi) := by
  unfold cutW cutV
  rw [r.length]
  exact (r.drop _).take _
/-- a slice of what is read -/
def slM (x : W) (l u : Option Int) : M W := fun h => match x with
  | .str z => if z.length ≤ sizeLine then some (.ok (.str (cutS z l u)), h) else none
  | .tup ws => some (.ok (.tup (cutW ws l u)), h)
  | x => match seqL h x with
    | some ws => alloc (.lst (cutW ws l u)) h
    | none => none
def mSl (me : ME W) (ml mh : ME (Option Int)) : ME W := bE me fun x => bE ml fun l => bE mh fun u => fun _ => slM x l u
theorem cutW_all {ws : List W} {lo hi : Option Int} (c : HT.sIx ws.length 0 lo = 0 ∧ HT.sIx ws.length ws.length hi = ws.length) : cutW ws lo hi = ws := by
  unfold cutW
  rw [c.1, c.2]
  simp
theorem m_slice {ml mh : ME (Option Int)} {lo hi : Option Expr} (he : PEm X Wx e me) (hl : POm X Wx lo ml) (hu : POm X Wx hi mh) : PEm X Wx (.Subscript e (.Slice lo hi none p2) pos) (mSl me ml mh) :=
  .imp (pe_slice ((sl_str.or sl_tupA).or sl_list) he.pe hl.po hu.po) fun σ H Q h => tG_bnd h fun ι1 w AH1 v H1 e re s1 r1 q => by
    obtain q := Out.bnd (R := RO) q
    refine ⟨ι1, e, AH1, re, s1, q.imp fun l H2 ⟨ι2, l', AH2, l2, s2, el, q2⟩ => ?_⟩
    obtain rfl : l = l' := Eq.symm el
    obtain q2 := Out.bnd (R := RO) q2
    refine ⟨ι2, e, AH2, re.mono l2, s2, q2.imp fun u H3 ⟨ι3, u', AH3, l3, s3, eu, q3⟩ => ?_⟩
    obtain rfl : u = u' := Eq.symm eu
    have r3 := RW.mono (l2.trans l3) _ _ r1
    have lists : ∀ ws, seqL AH3 w = some ws → Out X.K (RW X.K) (wx Wx σ) ι3 H3 (alloc (.lst (cutW ws l u)) AH3) Q → rSlL X.K v l u H3 Q := fun ws e1 q => by
      obtain ⟨p, vs, rfl, hp, rp⟩ := seqL_ok s3 r3 e1
      exact ⟨p, vs, rfl, hp, alloc_lst s3 rp.cut q⟩
    cases w with
    | str z =>
      obtain ⟨c, q3⟩ := out_ite q3
      exact .inl (.inl ⟨z, rw_str r3, c, q3 ι3 _ H3 Le.refl s3 rfl⟩)
    | tup ws =>
      obtain ⟨p, vs, rfl, hp, rp⟩ := rw_tup r3
      refine .inl (.inr ⟨p, vs, rfl, hp, fun c => ?_, fun _ => ?_⟩)
      · rw [← rp.length] at c
        have q3 : Out X.K (RW X.K) (wx Wx σ) ι3 H3 (ret (.tup (cutW ws l u)) AH3) Q := q3
        rw [cutW_all c] at q3
        exact same_tup s3 hp rp q3
      · exact alloc_tup s3 rp.cut q3
    | clo _ _ _ _ _ _ => exact q3.elim
    | cl ws =>
      exact .inr (lists ws rfl q3)
    | ref n =>
      have q3 : Out X.K (RW X.K) (wx Wx σ) ι3 H3 (match seqL AH3 (.ref n) with
        | some ws => alloc (.lst (cutW ws l u)) AH3
        | none => none) Q := q3
      cases e1 : seqL AH3 (.ref n) with
      | none => rw [e1] at q3; exact q3.elim
      | some ws => rw [e1] at q3; exact .inr (lists ws e1 q3)
    | non => exact q3.elim
    | bl _ => exact q3.elim
    | int _ => exact q3.elim
    | ty _ => exact q3.elim
    | gl _ => exact q3.elim
/-! ### in -/
def flatW : W → Bool
  | .non => true
  | .bl _ => true
  | .int _ => true
  | .str _ => true
  | _ => false
def fV : W → V
  | .bl b => .bl b
  | .int i => .int i
  | .str z => .str z
  | _ => .non
theorem fV_ok {K : PySem.W.Frag} {ι : List Addr} {H : Hp} {w : W} {v : V} (f : flatW w = true) (r : RW K ι H w v) : v = fV w ∧ flatV v = true := by
  cases w with
  | non => rw [rw_non r]; exact ⟨rfl, rfl⟩
  | bl b => rw [rw_bl r]; exact ⟨rfl, rfl⟩
  | int b => rw [rw_int r]; exact ⟨rfl, rfl⟩
  | str b => rw [rw_str r]; exact ⟨rfl, rfl⟩
  | _ => cases f
theorem fVs_ok {K : PySem.W.Frag} {ι : List Addr} {H : Hp} : ∀ {ws : List W} {vs : List V}, ws.all flatW = true → RWs K ι H ws vs → vs = ws.map fV ∧ vs.all flatV = true
  | [], vs, _, r => by rw [rws_nil r]; exact ⟨rfl, rfl⟩
  | w :: ws, vs, f, r => by
    obtain ⟨v, vr, rfl, rv, q⟩ := rws_cons r
    rw [List.all_cons, Bool.and_eq_true] at f
    obtain ⟨e1, f1⟩ := fV_ok f.1 rv
    obtain ⟨e2, f2⟩ := fVs_ok f.2 q
    exact ⟨by rw [e1, e2]; rfl, by rw [List.all_cons, f1, f2]; rfl⟩
/-- of flat items -/
def inFM (k : Bool → Bool) (x y : W) : M W := fun h => match seqLT h y with
  | some ws => if flatW x = true ∧ ws.all flatW = true then some (.ok (.bl (k (inV (fV x) (ws.map fV)))), h) else none
  | none => none
theorem keeps_inF {k : Bool → Bool} {r : R2} (hr : ∀ p xs v H Q, (SqL X.K H p xs ∨ SqT X.K H p xs) → flatV v = true → xs.all flatV = true → Q (.bl (k (inV v xs))) H → r v (.ref p) H Q) : Keeps2 X r (inFM k) := by
  intro Xx ι AH H w1 w2 v1 v2 Q s r1 r2 h
  unfold inFM at h
  cases e1 : seqLT AH w2 with
  | none => rw [e1] at h; exact h.elim
  | some ws =>
    rw [e1] at h
    obtain ⟨⟨c1, c2⟩, h⟩ := out_ite (c := flatW w1 = true ∧ ws.all flatW = true) h
    obtain ⟨p, vs, rfl, hp, rp⟩ := seqLT_ok s r2 e1
    obtain ⟨e3, f3⟩ := fV_ok c1 r1
    obtain ⟨e4, f4⟩ := fVs_ok c2 rp
    refine hr p vs v1 H Q hp f3 f4 ?_
    rw [e3, e4]
    exact h ι _ H Le.refl s (show V.bl _ = _ from rfl)
/-- a text in a text -/
def inSM (k : Bool → Bool) (x y : W) : M W := fun h => match asS x, asS y with
  | some a, some b => some (.ok (.bl (k (!(Builtin.Str.occurrences b a 0 b.length 1).isEmpty))), h)
  | _, _ => none
theorem keeps_inS {k : Bool → Bool} {r : R2} (hr : ∀ a b H Q, Q (.bl (k (!(Builtin.Str.occurrences b a 0 b.length 1).isEmpty))) H → r (.str a) (.str b) H Q) : Keeps2 X r (inSM k) := by
  intro Xx ι AH H w1 w2 v1 v2 Q s r1 r2 h
  unfold inSM at h
  cases e1 : asS w1 with
  | none => rw [e1] at h; exact h.elim
  | some a =>
    cases e2 : asS w2 with
    | none => rw [e1, e2] at h; exact h.elim
    | some b =>
      rw [e1, e2] at h
      cases asS_eq e1
      cases asS_eq e2
      rw [rw_str r1, rw_str r2]
      exact hr a b H Q (h ι _ H Le.refl s (show V.bl _ = _ from rfl))
/-- of data in a list -/
def inDM (k : Bool → Bool) (x y : W) : M W := fun h => match dOf h x, dOf h y with
  | some d, some (.list ds) => some (.ok (.bl (k (ds.any fun z => PyData.eqv z d))), h)
  | _, _ => none
theorem keeps_inD {k : Bool → Bool} {r : R2} (hr : ∀ v y d ds H Q, Dp X.K H v d → Dp X.K H y (.list ds) → SeqAt.shaped d = true → SeqAt.shaped (.list ds) = true → Q (.bl (k (ds.any fun z => PyData.eqv z d))) H → r v y H Q) : Keeps2 X r (inDM k) := by
  intro Xx ι AH H w1 w2 v1 v2 Q s r1 r2 h
  unfold inDM at h
  cases e1 : dOf AH w1 with
  | none => rw [e1] at h; exact h.elim
  | some d =>
    cases e2 : dOf AH w2 with
    | none => rw [e1, e2] at h; exact h.elim
    | some d2 =>
      rw [e1, e2] at h
      cases d2 with
      | list ds =>
        obtain ⟨a1, b1⟩ := dOf_ok s r1 e1
        obtain ⟨a2, b2⟩ := dOf_ok s r2 e2
        exact hr v1 v2 d ds H Q a1 a2 b1 b2 (h ι _ H Le.refl s (show V.bl _ = _ from rfl))
      | _ => exact h.elim
def flat2 (h : Hv) (x y : W) : Bool := match seqLT h y with
  | some ws => flatW x && ws.all flatW
  | none => false
def inK (k : Bool → Bool) (x y : W) : M W := fun h => if bothS x y = true then inSM k x y h else if flat2 h x y = true then inFM k x y h else inDM k x y h
theorem OpM.or3 {f : Value → Value → Sem Value} {g1 g2 g3 : W → W → M W} {g : W → W → M W} (h1 : OpM X f g1) (h2 : OpM X f g2) (h3 : OpM X f g3) (c : ∀ x y h, g x y h = g1 x y h ∨ g x y h = g2 x y h ∨ g x y h = g3 x y h) : OpM X f g := by
  obtain ⟨r1, o1, k1⟩ := h1
  obtain ⟨r2, o2, k2⟩ := h2
  obtain ⟨r3, o3, k3⟩ := h3
  refine ⟨_, OpR.or o1 (OpR.or o2 o3), fun Xx ι AH H w1 w2 v1 v2 Q s a b h => ?_⟩
  rcases c w1 w2 AH with e | e | e
  · exact .inl (k1 Xx ι AH H w1 w2 v1 v2 Q s a b (e ▸ h))
  · exact .inr (.inl (k2 Xx ι AH H w1 w2 v1 v2 Q s a b (e ▸ h)))
  · exact .inr (.inr (k3 Xx ι AH H w1 w2 v1 v2 Q s a b (e ▸ h)))
theorem inK_or (k : Bool → Bool) (x y : W) (h : Hv) : inK k x y h = inSM k x y h ∨ inK k x y h = inFM k x y h ∨ inK k x y h = inDM k x y h := by
  by_cases c : bothS x y = true
  · exact .inl (if_pos c)
  · by_cases c2 : flat2 h x y = true
    · exact .inr (.inl ((if_neg c).trans (if_pos c2)))
    · exact .inr (.inr ((if_neg c).trans (if_neg c2)))
abbrev inM : W → W → M W := inK id
abbrev ninM : W → W → M W := inK not
theorem op_inM (hu : X.A.units + 65 < cLine) : OpM X (compareOp .In) inM :=
  OpM.or3 (g1 := inSM id) (g2 := inFM id) (g3 := inDM id) ⟨_, op_in_str, keeps_inS fun a b H Q q => ⟨a, b, rfl, rfl, q⟩⟩ ⟨_, op_in_seq, keeps_inF fun p xs v H Q a b c q => ⟨p, xs, rfl, a, b, c, q⟩⟩ ⟨_, op_inD hu, keeps_inD fun v y d ds H Q a b c e q => ⟨d, ds, a, b, c, e, q⟩⟩ (inK_or id)
theorem op_ninM (hu : X.A.units + 65 < cLine) : OpM X (compareOp .NotIn) ninM :=
  OpM.or3 (g1 := inSM not) (g2 := inFM not) (g3 := inDM not) ⟨_, op_notIn_str, keeps_inS fun a b H Q q => ⟨a, b, rfl, rfl, q⟩⟩ ⟨_, op_notIn_seq, keeps_inF fun p xs v H Q a b c q => ⟨p, xs, rfl, a, b, c, q⟩⟩ ⟨_, op_notInD hu, keeps_inD fun v y d ds H Q a b c e q => ⟨d, ds, a, b, c, e, q⟩⟩ (inK_or not)
theorem u65 {k : Nat} {A : Around} (r : Room k A) : A.units + 65 < cLine := by have := r.un; omega
/-! ### is None -/
def isNon : W → Bool
  | .non => true
  | _ => false
def isNM (k : Bool → Bool) (x y : W) : M W := fun h => match y with
  | .non => some (.ok (.bl (k (isNon x))), h)
  | _ => none
theorem keeps_isN {k : Bool → Bool} {r : R2} (hr : ∀ v H Q, Q (.bl (k (decide (v = .non)))) H → r v .non H Q) : Keeps2 X r (isNM k) := by
  intro Xx ι AH H w1 w2 v1 v2 Q s r1 r2 h
  cases w2 with
  | non =>
    rw [rw_non r2]
    refine hr v1 H Q ?_
    have q := h ι _ H Le.refl s (show V.bl _ = _ from rfl)
    have e : decide (v1 = V.non) = isNon w1 := by
      cases w1 with
      | non => rw [rw_non r1]; rfl
      | bl _ => rw [rw_bl r1]; rfl
      | int _ => rw [rw_int r1]; rfl
      | str _ => rw [rw_str r1]; rfl
      | ty _ => rw [show v1 = _ from r1]; rfl
      | gl _ => rw [show v1 = _ from r1]; rfl
      | tup _ => obtain ⟨p, vs, rfl, _⟩ := rw_tup r1; rfl
      | cl _ => obtain ⟨p, vs, rfl, _⟩ := rw_cl r1; rfl
      | ref _ => obtain ⟨p, _, rfl⟩ := rw_ref r1; rfl
      | clo f c z σ ks ws => rw [(show v1 = V.ref f ∧ _ from r1).1]; rfl
    rw [e]; exact q
  | _ => exact h.elim
theorem op_isNM : OpM X (compareOp .Is) (isNM id) := ⟨_, op_isN, keeps_isN fun v H Q q => ⟨rfl, q⟩⟩
theorem op_notNM : OpM X (compareOp .IsNot) (isNM not) := ⟨_, op_notN, keeps_isN fun v H Q q => ⟨rfl, q⟩⟩
/-! ### the module's own values -/
theorem m_gint {x : Str} {i : Int} {u : Value} (hg : Gl X x) (hm : X.mg x = some u ∧ RelV (.int i) u) (hd : (x == ("__debug__" : Str)) = false := by decide) : PEm X Wx (.Name x pos) (mC (.int i)) := m_glob hg hm.1 hm.2 (fun _ _ => rfl) hd
theorem m_gstr {x z : Str} {u : Value} (hg : Gl X x) (hm : X.mg x = some u ∧ RelV (.str z) u) (hd : (x == ("__debug__" : Str)) = false := by decide) : PEm X Wx (.Name x pos) (mC (.str z)) := m_glob hg hm.1 hm.2 (fun _ _ => rfl) hd
/-- a list that the module wrote down -/
theorem m_glst {x : Str} {ws : List W} {vs : List V} {a : Addr} (hg : Gl X x) (hm : X.mg x = some (.ref a)) (hl : SqL X.K (fun _ => none) a vs) (hr : ∀ ι H, RWs X.K ι H ws vs) (hd : (x == ("__debug__" : Str)) = false := by decide) : PEm X Wx (.Name x pos) (mC (.cl ws)) :=
  m_glob hg hm (v := .ref a) rfl (fun ι H => ⟨a, vs, rfl, by
    rcases hl with (hl | ⟨o, hl⟩) | hl
    · cases hl
    · cases hl
    · exact .inr hl, hr ι H⟩) hd
end
end Z
namespace Z
open PySem PyProof.Rows L2
/-- what a loop walks: its items, and what must stand at each turn -/
structure Src where
  ok : Hv → Prop
  ws : List W
section
variable (K : PySem.W.Frag)
/-- the iterator yields them while that stands -/
structure Walks (s : Src) (ι1 : List Addr) (H1 : Hp) (J : It) : Prop where
  go : ∀ (ι : List Addr) (AH : Hv) (H : Hp) (i : Nat) (w : W), Le K ι1 H1 ι H → Sr K ι H AH → s.ok AH → s.ws[i]? = some w → J.go i H ∧ ∀ x H', J.yld i H x H' → Le K ι H ι H' ∧ Sr K ι H' AH ∧ RW K ι H' w x
  stop : ∀ (ι : List Addr) (AH : Hv) (H : Hp), Le K ι1 H1 ι H → Sr K ι H AH → s.ok AH → J.stop s.ws.length H
abbrev RI : List Addr → Hp → Src → It → Prop := fun ι H s J => Walks K s ι H J
end
structure PIm (X : Cx) (Wx : WX) (tg iter : Expr) (m : ME Src) : Prop where
  pi : PI X tg iter (tG X.K (RI X.K) Wx m)
section
variable {X : Cx} {Wx : WX} {pos p pos' : Pos} {tg iter a b : Expr} {ma mb : ME W} {me : ME (List W)} {sts : List Stmt}
theorem PI_imp {wi wi' : TI} (h : PI X tg iter wi) (f : ∀ σ H R, wi' σ H R → wi σ H R) : PI X tg iter wi' := ⟨fun pins s σ H R I q => h.run pins s σ H R I (f σ H R q)⟩
theorem PI_or {wi wi' : TI} (h : PI X tg iter wi) (h' : PI X tg iter wi') : PI X tg iter (fun σ H R => wi σ H R ∨ wi' σ H R) := ⟨fun pins s σ H R I q => q.elim (h.run pins s σ H R I) (h'.run pins s σ H R I)⟩
/-! ### a list, a tuple, a text -/
theorem walks_l {ι1 : List Addr} {H1 : Hp} {w : W} {v : V} {ws : List W} {p : Addr} (r : RW X.K ι1 H1 w (.ref p)) (e : ∀ AH, seqL AH w = none → True) : Walks X.K ⟨fun h => seqL h w = some ws, ws⟩ ι1 H1 (Itl X.K p) := by
  refine ⟨fun ι AH H i x l s ok hx => ?_, fun ι AH H l s ok => ?_⟩
  · obtain ⟨p', vs, ep, hq, rs⟩ := seqL_ok s (RW.mono l _ _ r) ok
    cases ep
    obtain ⟨v, hv, rv⟩ := rs.get hx
    refine ⟨⟨vs, v, hq, hv⟩, fun y H' ⟨e1, e2⟩ => ?_⟩
    subst e1
    have := e2 vs hq
    rw [hv] at this
    cases this
    exact ⟨Le.refl, s, rv⟩
  · obtain ⟨p', vs, ep, hq, rs⟩ := seqL_ok s (RW.mono l _ _ r) ok
    cases ep
    exact ⟨vs, hq, by rw [← rs.length]; exact Nat.le_refl _⟩
theorem walks_t {ι1 : List Addr} {H1 : Hp} {ws : List W} {p : Addr} (r : RW X.K ι1 H1 (.tup ws) (.ref p)) : Walks X.K ⟨fun _ => True, ws⟩ ι1 H1 (Itt X.K p) := by
  refine ⟨fun ι AH H i x l s ok hx => ?_, fun ι AH H l s ok => ?_⟩
  · obtain ⟨p', vs, ep, hq, rs⟩ := rw_tup (RW.mono l _ _ r)
    cases ep
    obtain ⟨v, hv, rv⟩ := rs.get hx
    refine ⟨⟨vs, v, hq, hv⟩, fun y H' ⟨e1, e2⟩ => ?_⟩
    subst e1
    have := e2 vs hq
    rw [hv] at this
    cases this
    exact ⟨Le.refl, s, rv⟩
  · obtain ⟨p', vs, ep, hq, rs⟩ := rw_tup (RW.mono l _ _ r)
    cases ep
    exact ⟨vs, hq, by rw [← rs.length]; exact Nat.le_refl _⟩
def signs (z : Str) : List W := z.cps.toList.map fun c => .str ⟨#[c]⟩
theorem walks_s {ι1 : List Addr} {H1 : Hp} {z : Str} : Walks X.K ⟨fun _ => True, signs z⟩ ι1 H1 (Its z) := by
  refine ⟨fun ι AH H i x l s ok hx => ?_, fun ι AH H l s ok => ?_⟩
  · unfold signs at hx
    rw [List.getElem?_map] at hx
    obtain ⟨c, hc, rfl⟩ := Option.map_eq_some_iff.mp hx
    have hc2 : z.cps[i]? = some c := by rw [← hc, Array.getElem?_toList]
    have hl : i < z.cps.size := (Array.getElem?_eq_some_iff.mp hc2).1
    refine ⟨hl, fun y H' ⟨e1, d, e2, e3⟩ => ?_⟩
    subst e1
    rw [hc2] at e2
    cases e2
    exact ⟨Le.refl, s, e3⟩
  · show z.cps.size ≤ (signs z).length
    simp [signs]
def srcW (w : W) : M Src := fun h => match w with
  | .str z => some (.ok ⟨fun _ => True, signs z⟩, h)
  | .tup ws => some (.ok ⟨fun _ => True, ws⟩, h)
  | w => match seqL h w with
    | some ws => some (.ok ⟨fun h' => seqL h' w = some ws, ws⟩, h)
    | none => none
def mIt (ma : ME W) : ME Src := bE ma fun w => fun _ => srcW w
theorem i_val (h : PEm X Wx a ma) : PIm X Wx tg a (mIt ma) := ⟨PI_imp (PI_or (PI_or (pi_str h.pe) (pi_tup h.pe)) (pi_list h.pe)) fun σ H R q => by
  obtain ⟨ι, e, AH, re, s, q⟩ := q
  have q' : Out X.K (RI X.K) (wx Wx σ) ι H (bnd (ma e) srcW AH) R := q
  unfold bnd at q'
  cases hm : ma e AH with
  | none => rw [hm] at q'; exact q'.elim
  | some z =>
    obtain ⟨r, h'⟩ := z
    rw [hm] at q'
    cases r with
    | error x => exact .inl (.inl ⟨ι, e, AH, re, s, by rw [hm]; exact q'⟩)
    | ok w =>
      have lists : ∀ ws, seqL h' w = some ws → Out X.K (RI X.K) (wx Wx σ) ι H (some (.ok ⟨fun h' => seqL h' w = some ws, ws⟩, h')) R → iList X.K (tE X.K Wx ma) σ H R := fun ws e1 q => ⟨ι, e, AH, re, s, by
        rw [hm]
        intro ι1 v H1 l s1 r1
        obtain ⟨p, vs, rfl, hq, rs⟩ := seqL_ok s1 r1 e1
        exact ⟨p, rfl, ⟨vs, hq⟩, q ι1 _ H1 l s1 (walks_l (v := .non) r1 fun _ _ => trivial)⟩⟩
      cases w with
      | str z => exact .inl (.inl ⟨ι, e, AH, re, s, by
          rw [hm]
          intro ι1 v H1 l s1 r1
          exact ⟨z, rw_str r1, q' ι1 _ H1 l s1 walks_s⟩⟩)
      | tup ws => exact .inl (.inr ⟨ι, e, AH, re, s, by
          rw [hm]
          intro ι1 v H1 l s1 r1
          obtain ⟨p, vs, rfl, hq, rs⟩ := rw_tup r1
          exact ⟨p, rfl, ⟨vs, hq⟩, q' ι1 _ H1 l s1 (walks_t r1)⟩⟩)
      | cl ws => exact .inr (lists ws rfl q')
      | ref n =>
        have q' : Out X.K (RI X.K) (wx Wx σ) ι H (match seqL h' (.ref n) with
          | some ws => some (.ok ⟨fun h' => seqL h' (.ref n) = some ws, ws⟩, h')
          | none => none) R := q'
        cases e1 : seqL h' (.ref n) with
        | none => rw [e1] at q'; exact q'.elim
        | some ws => rw [e1] at q'; exact .inr (lists ws e1 q')
      | non => exact q'.elim
      | bl _ => exact q'.elim
      | int _ => exact q'.elim
      | ty _ => exact q'.elim
      | gl _ => exact q'.elim
      | clo _ _ _ _ _ _ => exact q'.elim⟩
/-! ### range -/
theorem walks_r {ι1 : List Addr} {H1 : Hp} {lo : Int} {n : Nat} : Walks X.K ⟨fun _ => True, intsFrom lo n⟩ ι1 H1 (Itr lo n) := by
  have len : (intsFrom lo n).length = n := by simp [intsFrom]
  refine ⟨fun ι AH H i x l s ok hx => ?_, fun ι AH H l s ok => ?_⟩
  · have hl : i < n := by rw [← len]; exact (List.getElem?_eq_some_iff.mp hx).1
    rw [intsFrom_at hl] at hx
    cases hx
    refine ⟨hl, fun y H' ⟨e1, e2⟩ => ?_⟩
    subst e1
    exact ⟨Le.refl, s, e2⟩
  · show n ≤ (intsFrom lo n).length
    rw [len]; exact Nat.le_refl _
noncomputable def srcR (lo hi : Int) : M Src := fun h => ifP (-(2 ^ 62) ≤ lo ∧ lo < 2 ^ 62 ∧ -(2 ^ 62) ≤ hi ∧ hi < 2 ^ 62) (some (.ok ⟨fun _ => True, intsFrom lo (hi - lo).toNat⟩, h))
noncomputable def mRg1 (me : ME (List W)) : ME Src := bE me fun ws => fun _ h => match asI1 ws with
  | some j => srcR 0 j h
  | none => none
noncomputable def mRg2 (me : ME (List W)) : ME Src := bE me fun ws => fun _ h => match asI2 ws with
  | some ij => srcR ij.1 ij.2 h
  | none => none
theorem out_ifP {α β : Type} {K : PySem.W.Frag} {R : List Addr → Hp → α → β → Prop} {Xx : AX → Option Addr → Hp → Prop} {ι : List Addr} {H : Hp} {c : Prop} {r : Rs α} {Q : β → Hp → Prop} (h : Out K R Xx ι H (ifP c r) Q) : c ∧ Out K R Xx ι H r Q := by
  unfold ifP at h
  by_cases e : c
  · rw [if_pos e] at h; exact ⟨e, h⟩
  · rw [if_neg e] at h; exact h.elim
theorem i_rg1 (hG : Gl X "range") (hm : X.mg "range" = none) (hi : PAm X Wx [a] me) (hse : starEach [a] X.env = [(false, eval a X.env)] := by rfl) : PIm X Wx tg (.Call (.Name "range" p) [a] [] pos') (mRg1 me) := ⟨PI_imp (pi_range1 hG hm hi.pa hse) fun σ H R q => tG_bnd q fun ι1 ws AH1 vs H1 e re s1 r1 q => by
    cases e1 : asI1 ws with
    | none => simp only [e1] at q; exact q.elim
    | some j =>
      simp only [e1] at q
      have ew := asI1_eq e1
      subst ew
      obtain ⟨v, ev, rv⟩ := rws_one r1
      obtain ⟨⟨_, _, c1, c2⟩, q⟩ := out_ifP q
      rw [show j - 0 = j by omega] at q
      exact ⟨j, by rw [ev, rw_int rv], c1, c2, q ι1 _ H1 Le.refl s1 walks_r⟩⟩
theorem i_rg2 (hG : Gl X "range") (hm : X.mg "range" = none) (hi : PAm X Wx [a, b] me) (hse : starEach [a, b] X.env = [(false, eval a X.env), (false, eval b X.env)] := by rfl) (hse2 : starEach [b] X.env = [(false, eval b X.env)] := by rfl) : PIm X Wx tg (.Call (.Name "range" p) [a, b] [] pos') (mRg2 me) := ⟨PI_imp (pi_range2 hG hm hi.pa hse hse2) fun σ H R q => tG_bnd q fun ι1 ws AH1 vs H1 e re s1 r1 q => by
    cases e1 : asI2 ws with
    | none => simp only [e1] at q; exact q.elim
    | some ij =>
      obtain ⟨i, j⟩ := ij
      simp only [e1] at q
      have ew := asI2_eq e1
      subst ew
      obtain ⟨v, v', ev, rv, rv'⟩ := rws_two r1
      obtain ⟨cs, q⟩ := out_ifP q
      exact ⟨i, j, by rw [ev, rw_int rv, rw_int rv'], cs, q ι1 _ H1 Le.refl s1 walks_r⟩⟩
/-! ### for -/
theorem turn_at {K : PySem.W.Frag} {D : Ends} {ok : Hv → Prop} {g : W → MS} {mb : MS} {ws : List W} {i : Nat} {w : W} {v : V} {σ : L2.St} {H H0 : Hp} {ι0 ι : List Addr} {e : Ev} {AH : Hv} (hi : ws[i]? = some w) (sg : Stores g) (l0 : Le K ι0 H0 ι H) (re : RE K ι H e σ) (s : Sr K ι H AH)
    (h : OutS K Wx ι H (loopL ok g mb (ws.drop i) e AH) D) (rv : RW K ι H w v) :
    tGt K g v σ H fun σ2 H2 => tS K Wx mb { D with nx := LoopW K Wx D ok g mb ws ι0 H0 (i + 1), ct := LoopW K Wx D ok g mb ws ι0 H0 (i + 1), bk := D.nx } σ2 H2 := by
  obtain ⟨hl, ew⟩ := List.getElem?_eq_some_iff.mp hi
  rw [List.drop_eq_getElem_cons hl, ew] at h
  unfold loopL at h
  obtain ⟨hok, h⟩ := outS_ifP h
  refine ⟨ι, e, AH, w, re, s, rv, ?_⟩
  cases hg : g w e AH with
  | none => rw [hg] at h; exact h.elim
  | some r =>
    obtain ⟨f1, e1, h1⟩ := r
    have := sg w e AH f1 e1 h1 hg
    subst this
    rw [hg] at h
    intro ι1 σ1 H1 l1 s1 re1
    refine ⟨ι1, e1, h1, re1, s1, ?_⟩
    have h : OutS K Wx ι H (match mb e1 h1 with
      | some (.ok .nx, e2, h2) => loopL ok g mb (ws.drop (i + 1)) e2 h2
      | some (.ok .ct, e2, h2) => loopL ok g mb (ws.drop (i + 1)) e2 h2
      | some (.ok .bk, e2, h2) => some (.ok .nx, e2, h2)
      | q => q) D := h
    match hm : mb e1 h1, h with
    | none, h => exact h
    | some (.ok .nx, e2, h2), h => exact fun ι2 σ2 H2 l2 s2 re2 => ⟨ι2, e2, h2, l0.trans (l1.trans l2), re2, s2, h.le (l1.trans l2)⟩
    | some (.ok .ct, e2, h2), h => exact fun ι2 σ2 H2 l2 s2 re2 => ⟨ι2, e2, h2, l0.trans (l1.trans l2), re2, s2, h.le (l1.trans l2)⟩
    | some (.ok .bk, e2, h2), h => exact h.le l1
    | some (.ok (.rt z), e2, h2), h => exact h.le l1
    | some (.error x, e2, h2), h => exact h.le l1
noncomputable def sFor (ml : ME Src) (g : W → MS) (mb : MS) : MS := eS ml fun s => fun e h => loopL s.ok g mb s.ws e h
theorem s_for {ml : ME Src} {g : W → MS} {mb : MS} (hp : PassesOwn (model X.prog X.w) X.A X.env X.xe) (hc : X.calm = true) (hi : PIm X Wx tg iter ml) (hg : PGm X tg g) (sg : Stores g) (hb : PSsm X Wx sts mb)
    (hs : ∀ x, foldedSetIterable iter X.env x = pure x := by intro _; rfl) : PSm X Wx (.For tg iter sts [] pos) (sFor ml g mb) :=
  ⟨PS_imp (ps_for hp hc hi.pi hg.pg hb.ps hs) fun D σ H q => tS_eS (R := RI X.K) q fun ι1 w AH1 J H1 e re s1 r1 q => by
    have q : OutS X.K Wx ι1 H1 (loopL w.ok g mb w.ws e AH1) D := q
    refine ⟨fun i m σ H => m = w.ws.length - i ∧ i ≤ w.ws.length ∧ LoopW X.K Wx D w.ok g mb w.ws ι1 H1 i σ H, ⟨_, rfl, Nat.zero_le _, ι1, e, AH1, Le.refl, re, s1, by rw [List.drop_zero]; exact q⟩, ?_⟩
    rintro i m σ H ⟨rfl, hi, L⟩
    obtain ⟨ι, AH, l, s, ok⟩ := loop_at L
    by_cases hlt : i < w.ws.length
    · have hx : w.ws[i]? = some w.ws[i] := by simp [hlt]
      refine .inr ⟨(r1.go ι AH H i _ l s ok hx).1, LoopW X.K Wx D w.ok g mb w.ws ι1 H1 (i + 1), fun σ' H' L' => ⟨_, by omega, rfl, hlt, L'⟩, fun x H' y => ?_⟩
      obtain ⟨ι, e2, AH, l0, re2, s2, h⟩ := L
      have h0 := h
      rw [List.drop_eq_getElem_cons hlt] at h
      unfold loopL at h
      obtain ⟨l3, s3, r3⟩ := (r1.go ι AH H i _ l0 s2 (outS_ifP h).1 hx).2 x H' y
      exact turn_at hx sg (l0.trans l3) (re2.mono l3) s3 (h0.le l3) r3
    · have e' : i = w.ws.length := by omega
      subst e'
      exact .inl ⟨r1.stop ι AH H l s ok, loop_done L⟩⟩
/-! ### comprehensions -/
def wipeE (e : Ev) : List Nat → Ev
  | [] => e
  | v :: vs => (wipeE e vs).set v none
theorem RE.unset {K : PySem.W.Frag} {ι : List Addr} {H : Hp} {e : Ev} {σ : L2.St} {i : Nat} (h : RE K ι H e σ) : RE K ι H (e.set i none) (σ.set i none) := by
  refine ⟨by simp [h.len], fun j u q => ?_⟩
  by_cases hj : i = j
  · subst hj
    by_cases hl : i < e.length
    · rw [List.getElem?_set_self hl] at q; cases q
    · rw [List.getElem?_eq_none (by simpa using hl)] at q; cases q
  · rw [List.getElem?_set_ne hj] at q ⊢
    exact h.get j u q
theorem RE.wipe {K : PySem.W.Frag} {ι : List Addr} {H : Hp} {e : Ev} {σ : L2.St} (h : RE K ι H e σ) : ∀ vs, RE K ι H (wipeE e vs) (L2.wipe σ vs)
  | [] => h
  | v :: vs => RE.unset (RE.wipe h vs)
theorem wipe_in {σ : L2.St} {i : Nat} {x : Option V} : ∀ {vs : List Nat}, i ∈ vs → L2.wipe (σ.set i x) vs = L2.wipe σ vs
  | v :: vs, h => by
    show (L2.wipe (σ.set i x) vs).set v none = (L2.wipe σ vs).set v none
    by_cases hm : i ∈ vs
    · rw [wipe_in hm]
    · have hv : i = v := by
        rcases List.mem_cons.mp h with h | h
        · exact h
        · exact absurd h hm
      subst hv
      have e : ∀ (us : List Nat), i ∉ us → L2.wipe (σ.set i x) us = (L2.wipe σ us).set i x := fun us => by
        induction us with
        | nil => intro _; rfl
        | cons u us ih =>
          intro hu
          show (L2.wipe (σ.set i x) us).set u none = ((L2.wipe σ us).set u none).set i x
          rw [ih fun z => hu (List.mem_cons_of_mem _ z), List.set_comm _ _ (fun z => hu (by simp [z]))]
      rw [e vs hm, List.set_set]
/-- a block's target: names of its own -/
structure PBm (X : Cx) (tg : Expr) (vs : List Nat) (g : W → Ev → Option Ev) : Prop where
  ex : ∃ t, PG X tg t ∧ ∀ (ι : List Addr) (H : Hp) (e : Ev) (σ : L2.St) (w : W) (v : V) (e1 : Ev) (Q : L2.St → Hp → Prop), RE X.K ι H e σ → RW X.K ι H w v → g w e = some e1 → (∀ σ1, RE X.K ι H e1 σ1 → L2.wipe σ1 vs = L2.wipe σ vs → Q σ1 H) → t v σ H Q
structure PBsm (X : Cx) (tgs : List Expr) (vs : List Nat) (g : List W → Ev → Option Ev) : Prop where
  ex : ∃ t, PGs X tgs t ∧ ∀ (ι : List Addr) (H : Hp) (e : Ev) (σ : L2.St) (ws : List W) (us : List V) (e1 : Ev) (Q : L2.St → Hp → Prop), RE X.K ι H e σ → RWs X.K ι H ws us → g ws e = some e1 → (∀ σ1, RE X.K ι H e1 σ1 → L2.wipe σ1 vs = L2.wipe σ vs → Q σ1 H) → t us σ H Q
def bNm (i : Nat) (w : W) (e : Ev) : Option Ev := some (e.set i (some w))
theorem b_name {i : Nat} {x : Str} {vs : List Nat} (hN : X.N.Nodup) (hi : X.N[i]? = some x) (hx : Loc X.env.scope x) (hv : i ∈ vs) (hf : X.fn x = true ∨ X.env.scope.names.lookup x = some .local := by first | exact .inl rfl | exact .inr rfl | assumption) : PBm X (.Name x pos) vs (bNm i) :=
  ⟨_, pg_name hN hi hx hf, fun ι H e σ w v e1 Q re rv eg q => by cases eg; exact q _ (re.set rv) (wipe_in hv)⟩
def bNil (ws : List W) (e : Ev) : Option Ev := match ws with
  | [] => some e
  | _ => none
def bCons (g : W → Ev → Option Ev) (k : List W → Ev → Option Ev) (ws : List W) (e : Ev) : Option Ev := match ws with
  | w :: r => (g w e).bind (k r)
  | [] => none
theorem b_nil {vs : List Nat} : PBsm X [] vs bNil := ⟨_, pgs_nil, fun ι H e σ ws us e1 Q re r eg q => by
  cases ws with
  | nil => cases eg; exact ⟨rws_nil r, q σ re rfl⟩
  | cons _ _ => cases eg⟩
theorem b_cons {vs : List Nat} {t : Expr} {ts : List Expr} {g : W → Ev → Option Ev} {k : List W → Ev → Option Ev} (h1 : PBm X t vs g) (h2 : PBsm X ts vs k) (hs : (assignEach (t :: ts) X.env).map (·.2) = assign t X.env :: (assignEach ts X.env).map (·.2) := by rfl) : PBsm X (t :: ts) vs (bCons g k) := by
  obtain ⟨t1, a1, b1⟩ := h1
  obtain ⟨t2, a2, b2⟩ := h2
  refine ⟨_, pgs_cons a1 a2 hs, fun ι H e σ ws us e1 Q re r eg q => ?_⟩
  cases ws with
  | nil => cases eg
  | cons w wr =>
    obtain ⟨v, vr, rfl, rv, rr⟩ := rws_cons r
    obtain ⟨e2, he2, he3⟩ := Option.bind_eq_some_iff.mp (show (g w e).bind (k wr) = some e1 from eg)
    exact ⟨v, vr, rfl, b1 ι H e σ w v e2 _ re rv he2 fun σ1 re1 w1 => b2 ι H e2 σ1 wr vr e1 Q re1 rr he3 fun σ2 re2 w2 => q σ2 re2 (w2.trans w1)⟩
def bTp (n : Nat) (g : List W → Ev → Option Ev) (w : W) (e : Ev) : Option Ev := match asT w with
  | some ws => if ws.length = n then g ws e else none
  | none => none
theorem b_tup {vs : List Nat} {es : List Expr} {j n : Nat} {g : List W → Ev → Option Ev} (hc : X.calm = true) (h : PBsm X es vs g) (hn : (assignEach es X.env).length = n := by rfl) (hst : (assignEach es X.env).findIdx? (·.1) = none := by rfl) : PBm X (.Tuple es j pos) vs (bTp n g) := by
  obtain ⟨t, a1, b1⟩ := h
  refine ⟨_, pg_tup hc a1 hn hst, fun ι H e σ w v e1 Q re rv eg q => ?_⟩
  unfold bTp at eg
  cases et : asT w with
  | none => rw [et] at eg; cases eg
  | some ws =>
    rw [et] at eg
    cases asT_eq et
    obtain ⟨p, us, ep, hq, rs⟩ := rw_tup rv
    have eg : (if ws.length = n then g ws e else none) = some e1 := eg
    by_cases c : ws.length = n
    · rw [if_pos c] at eg
      exact ⟨p, us, ep, hq, by rw [← rs.length]; exact c, b1 ι H e σ ws us e1 Q re rs eg q⟩
    · rw [if_neg c] at eg; cases eg
/-- ifs -/
structure PIfm (X : Cx) (ifs : List Expr) (m : ME Bool) : Prop where
  pt : PTs X ifs (tT X.K WF m)
theorem if_nil : PIfm X [] (mB true) := ⟨⟨fun pins s σ H Q I ⟨ι, e, AH, re, sr, h⟩ => pts_nil.run pins s σ H Q I (h ι true H Le.refl sr rfl)⟩⟩
theorem if_one {c : Expr} {m : ME Bool} (h : PTm X WF c m) : PIfm X [c] m := ⟨pts_one h.pt⟩
noncomputable def lcL (ok : Hv → Prop) (g : W → Ev → Option Ev) (tt : ME Bool) (te : ME W) (D : Nat) (e : Ev) : List W → M W
  | [] => fun h => ifP (ok h) (some (.ok (.ref D), h))
  | w :: r => fun h => ifP (ok h) (match g w e with
    | some e1 => (match tt e1 h with
      | some (.ok true, h1) => (match te e1 h1 with
        | some (.ok y, h2) => (match lstAt h2 D with
          | some acc => if acc.length < sizeLine then lcL ok g tt te D e r (h2.set D (.lst (acc ++ [y]))) else none
          | none => none)
        | _ => none)
      | some (.ok false, h1) => lcL ok g tt te D e r h1
      | _ => none)
    | none => none)
noncomputable def mLc (ml : ME Src) (g : W → Ev → Option Ev) (tt : ME Bool) (te : ME W) (vs : List Nat) : ME W := bE ml fun s => fun e h => lcL s.ok g tt te h.length (wipeE e vs) s.ws (h ++ [.lst []])
def tBm (K : PySem.W.Frag) (vs : List Nat) (g : W → Ev → Option Ev) : TG := fun v σ H Q => ∃ ι e w e1, RE K ι H e σ ∧ RW K ι H w v ∧ g w e = some e1 ∧ ∀ σ1, RE K ι H e1 σ1 → L2.wipe σ1 vs = L2.wipe σ vs → Q σ1 H
theorem PBm.pg {vs : List Nat} {g : W → Ev → Option Ev} (h : PBm X tg vs g) : PG X tg (tBm X.K vs g) := by
  obtain ⟨t, a, b⟩ := h
  exact PG_imp a fun v σ H Q ⟨ι, e, w, e1, re, rv, eg, q⟩ => b ι H e σ w v e1 Q re rv eg q
theorem wipe_wipe {σ : L2.St} {vs : List Nat} : ∀ us : List Nat, (∀ u ∈ us, u ∈ vs) → L2.wipe (L2.wipe σ us) vs = L2.wipe σ vs
  | [], _ => rfl
  | u :: us, h => by
    show L2.wipe ((L2.wipe σ us).set u none) vs = _
    rw [wipe_in (h u (by simp)), wipe_wipe us fun x hx => h x (by simp [hx])]
theorem lst_at {K : PySem.W.Frag} {ι : List Addr} {H : Hp} {AH : Hv} {n : Nat} {D : Addr} {acc : List W} (s : Sr K ι H AH) (hn : ι[n]? = some D) (e : lstAt AH n = some acc) : ∃ vs, H D = some (.lst vs) ∧ RWs K ι H acc vs := s.at hn (lstAt_eq e)
theorem t_lc {ml : ME Src} {g : W → Ev → Option Ev} {tt : ME Bool} {te : ME W} {vs : List Nat} (σ : L2.St) (H : Hp) (Q : VK) (h : tE X.K Wx (mLc ml g tt te vs) σ H Q) : tLc (tG X.K (RI X.K) Wx ml) (tBm X.K vs g) (tT X.K WF tt) (tE X.K WF te) vs σ H Q := by
  refine tG_bnd (R := RI X.K) h fun ι1 src AH1 J H1 e re s1 r1 q => ?_
  intro D hD
  have s2 := s1.alloc (o := .lst []) (u := .lst []) hD ⟨[], upd_same, RWs.nl⟩
  have l2 : Le X.K ι1 H1 (ι1 ++ [D]) (upd H1 D (.lst [])) := Le.more hD
  have atD : (ι1 ++ [D])[AH1.length]? = some D := by rw [← s1.len]; simp
  have q := q.le l2
  generalize hι2 : ι1 ++ [D] = ι2 at s2 l2 atD q
  generalize hH2 : upd H1 D (.lst []) = H2 at s2 l2 q ⊢
  have e0 : RE X.K ι2 H2 (wipeE e vs) (L2.wipe σ vs) := (re.mono l2).wipe vs
  let LcW : Nat → Hp → Prop := fun i H => ∃ ι AH, Le X.K ι2 H2 ι H ∧ Sr X.K ι H AH ∧ Out X.K (RW X.K) (wx Wx σ) ι H (lcL src.ok g tt te AH1.length (wipeE e vs) (src.ws.drop i) AH) Q
  refine ⟨fun i m H => m = src.ws.length - i ∧ i ≤ src.ws.length ∧ LcW i H, ⟨_, rfl, Nat.zero_le _, ι2, _, Le.refl, s2, q⟩, ?_⟩
  rintro i m H3 ⟨rfl, hle, ι3, AH3, l3, s3, q3⟩
  by_cases hlt : i < src.ws.length
  · have hx : src.ws[i]? = some src.ws[i] := by simp [hlt]
    rw [List.drop_eq_getElem_cons hlt] at q3
    unfold lcL at q3
    obtain ⟨hok, q3⟩ := out_ifP q3
    obtain ⟨go, yl⟩ := r1.go ι3 AH3 H3 i _ (l2.trans l3) s3 hok hx
    refine .inr ⟨go, LcW (i + 1), fun H' nx => ⟨_, by omega, rfl, hlt, nx⟩, fun x H' y => ?_⟩
    obtain ⟨l4, s4, r4⟩ := yl x H' y
    cases hgw : g src.ws[i] (wipeE e vs) with
    | none => rw [hgw] at q3; exact q3.elim
    | some e1 =>
      simp only [hgw] at q3
      have q3 := q3.le l4
      refine ⟨ι3, wipeE e vs, _, e1, e0.mono (l3.trans l4), r4, hgw, fun σ1 re1 w1 => ⟨w1.trans (wipe_wipe vs fun _ h => h), ι3, e1, AH3, re1, s4, ?_⟩⟩
      cases htt : tt e1 AH3 with
      | none => simp only [htt] at q3; exact q3.elim
      | some z =>
        obtain ⟨rz, h1⟩ := z
        simp only [htt] at q3
        cases rz with
        | error x => exact q3.elim
        | ok b =>
          intro ι5 b' H5 l5 s5 eb
          cases (show b = b' from eb)
          cases b with
          | false =>
            rw [if_neg Bool.false_ne_true]
            exact ⟨ι5, h1, l3.trans (l4.trans l5), s5, q3.le l5⟩
          | true =>
            rw [if_pos rfl]
            refine ⟨ι5, e1, h1, re1.mono l5, s5, ?_⟩
            cases hte : te e1 h1 with
            | none => simp only [hte] at q3; exact q3.elim
            | some z =>
              obtain ⟨rz, h2⟩ := z
              simp only [hte] at q3
              cases rz with
              | error x => exact q3.elim
              | ok y =>
                intro ι6 v6 H6 l6 s6 r6
                simp only at q3
                cases hl : lstAt h2 AH1.length with
                | none => simp only [hl] at q3; exact q3.elim
                | some acc =>
                  simp only [hl] at q3
                  obtain ⟨c, q3⟩ := out_ite q3
                  have aD : ι6[AH1.length]? = some D := (l3.trans (l4.trans (l5.trans l6))).at atD
                  obtain ⟨us, hus, rus⟩ := lst_at s6 aD hl
                  have l7 : Le X.K ι6 H6 ι6 (upd H6 D (.lst (us ++ [v6]))) := Le.mu (s6.mut aD)
                  refine ⟨us, hus, by rw [← rus.length]; exact c, ι6, _, l3.trans (l4.trans (l5.trans (l6.trans l7))), s6.set (o := .lst (acc ++ [y])) aD ⟨us ++ [v6], upd_same, RWs.mono l7 _ _ (rus.append (RWs.mk r6 RWs.nl))⟩, ?_⟩
                  exact q3.le (l5.trans (l6.trans l7))
  · have e' : i = src.ws.length := by omega
    subst e'
    rw [List.drop_length] at q3
    unfold lcL at q3
    obtain ⟨hok, q3⟩ := out_ifP q3
    exact .inl ⟨r1.stop ι3 AH3 H3 (l2.trans l3) s3 hok, q3 ι3 _ H3 Le.refl s3 ⟨D, l3.at atD, rfl⟩⟩
theorem m_lc {elt : Expr} {ifs : List Expr} {scope : Scope} {own : List (Str × Nat)} {ml : ME Src} {g : W → Ev → Option Ev} {tt : ME Bool} {te : ME W} (hc : X.calm = true) (hN : X.N.Nodup) (hi : PIm X Wx tg iter ml) (ok : BlkOk X.N X.env.scope scope own)
    (hg : ∀ (s : Shared) (H : Hp) (C : Addr) (cl : List (Str × Addr)) (fp : List Addr), PBm (X.blk s H scope (compEnvC scope cl C X.env) fp) tg (own.map (·.2)) g)
    (ht : ∀ (s : Shared) (H : Hp) (C : Addr) (cl : List (Str × Addr)) (fp : List Addr), PIfm (X.blk s H scope (compEnvC scope cl C X.env) fp) ifs tt)
    (he : ∀ (s : Shared) (H : Hp) (C : Addr) (cl : List (Str × Addr)) (fp : List Addr), PEm (X.blk s H scope (compEnvC scope cl C X.env) fp) WF elt te) (hs : ∀ x, foldedSetIterable iter X.env x = pure x := by intro _; rfl) :
    PEm X Wx (.ListComp elt [⟨tg, iter, ifs, 0⟩] scope pos) (mLc ml g tt te (own.map (·.2))) :=
  .imp (pe_lc (elt := elt) (pos := pos) (g := tBm X.K (own.map (·.2)) g) (tt := tT X.K WF tt) (te := tE X.K WF te) hc hN hi.pi ok (fun s H C cl fp => (hg s H C cl fp).pg) (fun s H C cl fp => (ht s H C cl fp).pt) (fun s H C cl fp => (he s H C cl fp).pe) hs) t_lc
/-- name = [..] on one line -/
theorem s_setLc {i : Nat} {y : Str} {py spos : Pos} {elt : Expr} {ifs : List Expr} {scope : Scope} {own : List (Str × Nat)} {ml : ME Src} {g : W → Ev → Option Ev} {tt : ME Bool} {te : ME W} (hc : X.calm = true) (hN : X.N.Nodup) (hy : X.N[i]? = some y) (hyl : X.env.scope.names.lookup y = some .local)
    (hsw : swapsWith (.ListComp elt [⟨tg, iter, ifs, 0⟩] scope pos) (some (.Name y py)) spos.line X.env = pure true) (hi : PIm X Wx tg iter ml) (ok : BlkOk X.N X.env.scope scope own)
    (hg : ∀ (s : Shared) (H : Hp) (C : Addr) (cl : List (Str × Addr)) (fp : List Addr), PBm (X.blk s H scope (compEnvC scope cl C X.env) fp) tg (own.map (·.2)) g)
    (ht : ∀ (s : Shared) (H : Hp) (C : Addr) (cl : List (Str × Addr)) (fp : List Addr), PIfm (X.blk s H scope (compEnvC scope cl C X.env) fp) ifs tt)
    (he : ∀ (s : Shared) (H : Hp) (C : Addr) (cl : List (Str × Addr)) (fp : List Addr), PEm (X.blk s H scope (compEnvC scope cl C X.env) fp) WF elt te) (hs : ∀ x, foldedSetIterable iter X.env x = pure x := by intro _; rfl) :
    PSm X Wx (.Assign [.Name y py] (.ListComp elt [⟨tg, iter, ifs, 0⟩] scope pos) spos) (sAsg (mLc ml g tt te (own.map (·.2))) (gNm i)) := by
  have base := ps_setLc (i := i) (elt := elt) (g := tBm X.K (own.map (·.2)) g) (tt := tT X.K WF tt) (te := tE X.K WF te) hc hN hy hyl hsw hi.pi ok (fun s H C cl fp => (hg s H C cl fp).pg) (fun s H C cl fp => (ht s H C cl fp).pt) (fun s H C cl fp => (he s H C cl fp).pe) hs
  refine ⟨PS_imp base fun D σ H q => ?_⟩
  exact t_lc σ H (fun v H1 => D.nx (σ.set i (some v)) H1) (tS_eS (R := RW X.K) q fun ι1 w AH1 v H1 e re s1 r1 q => q ι1 _ H1 Le.refl s1 (re.set r1))
end
end Z
namespace Z
open PySem PyProof.Rows L2
section
variable {X : Cx} {Wx : WX} {pos spos : Pos} {a b c e : Expr} {ma mb : ME W} {ml : ME (List W)}
/-! ### a, b = x, y of names -/
def gPar (is : List Nat) (ws : List W) : MS := fun e h => if ws.length = is.length then some (.ok .nx, (is.zip ws).foldl (fun e p => e.set p.1 (some p.2)) e, h) else none
def sPar (is : List Nat) (ml : ME (List W)) : MS := eS ml (gPar is)
theorem s_par2 {i j : Nat} {x y : Str} {px py pt : Pos} {kt k2 pt2} (hc : X.calm = true) (hN : X.N.Nodup) (hi : X.N[i]? = some x) (hj : X.N[j]? = some y) (hij : i ≠ j)
    (hx : X.env.scope.names.lookup x = some .local) (hy : X.env.scope.names.lookup y = some .local) (ha : PAm X Wx [a, b] ml)
    (hw : swappedStores [.Tuple [.Name x px, .Name y py] kt pt] (.Tuple [a, b] k2 pt2) X.env = pure (some [x, y]))
    (hs : swapsWithSole [.Tuple [.Name x px, .Name y py] kt pt] (.Tuple [a, b] k2 pt2) pos.line X.env = pure false := by rfl) :
    PSm X Wx (.Assign [.Tuple [.Name x px, .Name y py] kt pt] (.Tuple [a, b] k2 pt2) pos) (sPar [i, j] ml) :=
  ⟨PS_imp (ps_par hc hN hi hj hij hx hy ha.pa hw hs) fun D σ H q => tS_eS q fun ι1 ws AH1 vs H1 e re s1 r1 q => by
    match ws, r1, q with
    | [], _, q => exact q.elim
    | [_], _, q => exact q.elim
    | _ :: _ :: _ :: _, _, q =>
      have q : OutS X.K Wx ι1 H1 (if _ then _ else _) D := q
      simp at q
      exact q.elim
    | [w1, w2], r1, q =>
      obtain ⟨v1, v2, ev, rv1, rv2⟩ := rws_two r1
      exact ⟨v1, v2, ev, q ι1 _ H1 Le.refl s1 ((re.set rv1).set rv2)⟩⟩
theorem s_par3 {i j l : Nat} {x y z : Str} {px py pz pt : Pos} {kt k2 pt2} (hc : X.calm = true) (hN : X.N.Nodup) (hi : X.N[i]? = some x) (hj : X.N[j]? = some y) (hl : X.N[l]? = some z) (hij : i ≠ j) (hil : i ≠ l) (hjl : j ≠ l)
    (hx : X.env.scope.names.lookup x = some .local) (hy : X.env.scope.names.lookup y = some .local) (hz : X.env.scope.names.lookup z = some .local) (ha : PAm X Wx [a, b, c] ml)
    (hw : swappedStores [.Tuple [.Name x px, .Name y py, .Name z pz] kt pt] (.Tuple [a, b, c] k2 pt2) X.env = pure (some [x, y, z]))
    (hs : swapsWithSole [.Tuple [.Name x px, .Name y py, .Name z pz] kt pt] (.Tuple [a, b, c] k2 pt2) pos.line X.env = pure false := by rfl) :
    PSm X Wx (.Assign [.Tuple [.Name x px, .Name y py, .Name z pz] kt pt] (.Tuple [a, b, c] k2 pt2) pos) (sPar [i, j, l] ml) :=
  ⟨PS_imp (ps_par3 hc hN hi hj hl hij hil hjl hx hy hz ha.pa hw hs) fun D σ H q => tS_eS q fun ι1 ws AH1 vs H1 e re s1 r1 q => by
    match ws, r1, q with
    | [], _, q => exact q.elim
    | [_], _, q => exact q.elim
    | [_, _], _, q => exact q.elim
    | _ :: _ :: _ :: _ :: _, _, q =>
      have q : OutS X.K Wx ι1 H1 (if _ then _ else _) D := q
      simp at q
      exact q.elim
    | [w1, w2, w3], r1, q =>
      obtain ⟨v1, vr, rfl, rv1, r2⟩ := rws_cons r1
      obtain ⟨v2, v3, rfl, rv2, rv3⟩ := rws_two r2
      exact ⟨v1, v2, v3, rfl, q ι1 _ H1 Le.refl s1 (((re.set rv1).set rv2).set rv3)⟩⟩
/-! ### x[::-1] -/
def revS (z : Str) : Str := ⟨(((List.range z.length).map fun k => z.length - 1 - k).filterMap (z.cps[·]?)).toArray⟩
theorem revS_len (z : Str) : (revS z).length ≤ z.length := by
  show (((List.range z.length).map fun k => z.length - 1 - k).filterMap (z.cps[·]?)).toArray.size ≤ _
  rw [List.size_toArray]
  refine Nat.le_trans (List.length_filterMap_le _ _) ?_
  simp
def tRevS (te : TE) : TE := fun σ H Q => te σ H fun x H1 => ∃ z, x = .str z ∧ z.length ≤ sizeLine ∧ Q (.str (revS z)) H1
theorem pe_revS {te : TE} {k : Nat} {p1 p2 p3 : Pos} (he : PE X e te) : PE X (.Subscript e (.Slice none none (some (.UnaryOp .USub (.Constant (.int 1) k p1) p2)) p3) pos) (tRevS te) := by
  refine ⟨fun pins s σ H Q I h => ?_⟩
  refine Subscript_ (thn (he.run pins s σ H _ I h) fun v s1 ⟨x, H1, I1, r1, z, ez, hz, q⟩ => ?_)
  subst ez
  obtain ⟨t, rfl⟩ := r1
  have stp : PO X (some (.UnaryOp .USub (.Constant (.int 1) k p1) p2)) (tPart (tUn (rU fun i => .int (-i)) (tC (.int 1)))) := po_some (pe_un un_neg pe_int)
  refine wpAny_Slice (thn (po_none.run pins s1 σ H1 (fun o H2 => o = none ∧ H2 = H1) I1 ⟨rfl, rfl⟩) fun vl s2 z2 => ?_)
  obtain ⟨l, H2, I2, pl, el, e2⟩ := z2
  subst el; subst e2
  refine thn (po_none.run pins s2 σ _ (fun o H3 => o = none ∧ H3 = _) I2 ⟨rfl, rfl⟩) fun vu s3 z3 => ?_
  obtain ⟨u, H3, I3, pu, eu, e3⟩ := z3
  subst eu; subst e3
  refine thn (stp.run pins s3 σ _ (fun o H4 => o = some (-1) ∧ H4 = _) I3 ⟨1, rfl, -1, rfl, rfl, rfl⟩) fun vs s4 z4 => ?_
  obtain ⟨o, H4, I4, ps, eo, e4⟩ := z4
  subst eo; subst e4
  have I5 := I4.kept (t' := s4.toks) (h' := s4.heap.push { cls := .type "slice", data := .fields #[vl, vu, vs] }) fun b ob q => Heap.get?_push_of_some _ q
  obtain ⟨l, rfl, hl⟩ := IsPart.raw pl
  obtain ⟨u, rfl, hu⟩ := IsPart.raw pu
  obtain ⟨w, rfl, hw⟩ := IsPart.raw ps
  show wpAny (model X.prog X.w) X.A (subscriptTail e (.Slice none none (some (.UnaryOp .USub (.Constant (.int 1) k p1) p2)) p3) (.str z t) (.ref s4.heap.objs.size)) _ X.xe _
  refine tail_any (ops := [.str z t, .ref s4.heap.objs.size]) (typeIs_str _ _ _) F.slot_str_getitem.lookup ?_ (by with_unfolding_all rfl)
  refine wpAny_getItem_str_slice (l := l) (u := u) (st := w) ⟨_, Heap.get?_push_size _ rfl, rfl, rfl⟩ (by rw [hw]; rfl) ?_
  have hz2 : (revS z).length ≤ sizeLine := Nat.le_trans (revS_len z) hz
  have fin : Made.post (Made.str (revS z)) (EP X pins σ Q) { s4 with heap := s4.heap.push { cls := .type "slice", data := .fields #[partValue l, partValue u, partValue w] } } := ⟨hz2, .str _, _, I5.tok _, ⟨_, rfl⟩, q⟩
  have em : sliceMade z t l u w = Made.str (revS z) := by
    unfold sliceMade slicePicked
    rw [hl, hu, hw]
    show (if (((-1 : Int) == 1) && _) = true then _ else Made.str ⟨((Builtin.Str.strSliceIndices none none (-1) z.length).filterMap (z.cps[·]?)).toArray⟩) = _
    rw [picked_rev]
    rfl
  rw [em]
  exact fin
def mRevS (m : ME W) : ME W := bE m fun w => fun _ h => match asS w with
  | some z => if z.length ≤ sizeLine then some (.ok (.str (revS z)), h) else none
  | none => none
theorem m_revS {k : Nat} {p1 p2 p3 : Pos} (he : PEm X Wx e ma) : PEm X Wx (.Subscript e (.Slice none none (some (.UnaryOp .USub (.Constant (.int 1) k p1) p2)) p3) pos) (mRevS ma) :=
  .imp (pe_revS he.pe) fun σ H Q h => tG_bnd h fun ι1 w AH1 v H1 e re s1 r1 q => by
    cases e1 : asS w with
    | none => simp only [e1] at q; exact q.elim
    | some z =>
      simp only [e1] at q
      cases asS_eq e1
      obtain ⟨c, q⟩ := out_ite q
      exact ⟨z, rw_str r1, c, q ι1 _ H1 Le.refl s1 rfl⟩
def mRevL (m : ME W) : ME W := bE m fun w => fun _ h => match seqL h w with
  | some ws => alloc (.lst ws.reverse) h
  | none => none
theorem m_revL {k : Nat} {p1 p2 p3 : Pos} (he : PEm X Wx e ma) : PEm X Wx (.Subscript e (.Slice none none (some (.UnaryOp .USub (.Constant (.int 1) k p1) p2)) p3) pos) (mRevL ma) :=
  .imp (pe_revL he.pe) fun σ H Q h => tG_bnd h fun ι1 w AH1 v H1 e re s1 r1 q => by
    cases e1 : seqL AH1 w with
    | none => simp only [e1] at q; exact q.elim
    | some ws =>
      simp only [e1] at q
      obtain ⟨p, vs, rfl, hp, rp⟩ := seqL_ok s1 r1 e1
      exact ⟨p, vs, rfl, hp, alloc_lst s1 rp.rev q⟩
/-- a list, a tuple, a text -/
def ixA (x y : W) : M W := match x with
  | .str _ => ixS x y
  | _ => ixM x y
theorem ix_ixA : IxM X ixA := IxM.or ix_ixM ix_ixS fun w1 w2 h => by cases w1 <;> first | exact .inl rfl | exact .inr rfl
end
end Z
namespace Z
open PySem PyProof.Rows L2
section
variable {e : Ev} {h : Hv} {X : XH} {N B C : Ev → Hv → Prop} {T : W → Hv → Prop} {Q : W → Hv → Prop} {QS : Src → Hv → Prop} {QO : Option Int → Hv → Prop} {QU : Unit → Hv → Prop} {ma mb : ME W} {ml : ME (List W)}
theorem w_ixA {x : W} {ws : List W} {i : Int} {w : W} (e1 : seqLT h x = some ws) (e2 : atI ws i = some w) (q : Q w h) : wE (ixA x (.int i) h) Q X := by
  cases x with
  | str _ => cases e1
  | _ => exact w_ix e1 e2 q
theorem w_ixAT {ws : List W} {i : Int} {w : W} (e2 : atI ws i = some w) (q : Q w h) : wE (ixA (.tup ws) (.int i) h) Q X := w_ixA (x := .tup ws) rfl e2 q
theorem w_ixAC {ws : List W} {i : Int} {w : W} (e2 : atI ws i = some w) (q : Q w h) : wE (ixA (.cl ws) (.int i) h) Q X := w_ixA (x := .cl ws) rfl e2 q
theorem w_ixAS {z : Str} {i : Int} {c : Nat} (hz : z.length ≤ sizeLine) (e2 : atI z.cps.toList i = some c) (q : Q (.str ⟨#[c]⟩) h) : wE (ixA (.str z) (.int i) h) Q X := by
  unfold ixA ixS
  simp only [asS, asI]
  rw [if_pos hz, e2]
  exact q
theorem w_catS {a b : Str} (c : a.length + b.length ≤ sizeLine) (q : Q (.str (a ++ b)) h) : wE (addM (.str a) (.str b) h) Q X := by
  unfold addM catS
  simp only [asS]
  rw [if_pos c]; exact q
theorem w_catL {a b : Nat} {xs ys : List W} (e1 : h[a]? = some (.lst xs)) (e2 : h[b]? = some (.lst ys)) (c : xs.length + ys.length ≤ sizeLine) (q : Q (.ref h.length) (h ++ [.lst (xs ++ ys)])) : wE (addM (.ref a) (.ref b) h) Q X := by
  unfold addM catM
  simp only [mlst_of e1, mlst_of e2]
  rw [if_pos c]; exact q
theorem w_rev (a : wE (ma e h) (fun w h1 => ∃ z, w = .str z ∧ z.length ≤ sizeLine ∧ Q (.str (revS z)) h1) X) : wE (mRevS ma e h) Q X := wbE (a.imp fun w h1 ⟨z, ew, c, q⟩ => by
  subst ew
  simp only [asS]
  rw [if_pos c]; exact q)
theorem w_chain {g g' : W → W → M W} {ma mb mc : ME W} (a : wE (ma e h) (fun x h1 => wE (mb e h1) (fun y h2 => wE (g x y h2) (fun z h3 => ∃ b, z = .bl b ∧ (b = true → wE (mc e h3) (fun w h4 => wE (g' y w h4) Q X) X) ∧ (b = false → Q (.bl false) h3)) X) X) X) : wE (mChain g g' ma mb mc e h) Q X :=
  wbE (a.imp fun x h1 a => wbE (a.imp fun y h2 a => wbE (a.imp fun z h3 ⟨b, ez, t, f⟩ => by
    subst ez
    cases b with
    | true => exact wbE (t rfl)
    | false => exact f rfl)))
theorem w_no (q : QO none h) : wE (mNo e h) QO X := q
theorem w_part (a : wE (ma e h) (fun w h1 => ∃ i, w = .int i ∧ QO (some i) h1) X) : wE (mPart ma e h) QO X := wbE (a.imp fun w h1 ⟨i, ew, q⟩ => by subst ew; exact q)
theorem w_sl {l u : ME (Option Int)} (a : wE (ma e h) (fun x h1 => wE (l e h1) (fun i h2 => wE (u e h2) (fun j h3 => wE (slM x i j h3) Q X) X) X) X) : wE (mSl ma l u e h) Q X := wbE (a.imp fun _ _ a => wbE (a.imp fun _ _ a => wbE (a.imp fun _ _ q => q)))
theorem w_slS {z : Str} {l u : Option Int} (c : z.length ≤ sizeLine) (q : Q (.str (cutS z l u)) h) : wE (slM (.str z) l u h) Q X := by
  show wE (if z.length ≤ sizeLine then some (.ok (.str (cutS z l u)), h) else none) Q X
  rw [if_pos c]; exact q
theorem w_par {is : List Nat} (a : wE (ml e h) (fun ws h1 => ws.length = is.length ∧ N ((is.zip ws).foldl (fun e p => e.set p.1 (some p.2)) e) h1) X) : wS (sPar is ml e h) N T X B C := x_eS (a.imp fun ws h1 q => by
  unfold gPar
  rw [if_pos q.1]; exact q.2)
theorem w_it {ma : ME W} (a : wE (ma e h) (fun w h1 => wE (srcW w h1) QS X) X) : wE (mIt ma e h) QS X := wbE a
theorem w_srcS {z : Str} (q : QS ⟨fun _ => True, signs z⟩ h) : wE (srcW (.str z) h) QS X := q
theorem w_srcT {ws : List W} (q : QS ⟨fun _ => True, ws⟩ h) : wE (srcW (.tup ws) h) QS X := q
theorem w_srcL {n : Nat} {ws : List W} (e1 : h[n]? = some (.lst ws)) (q : QS ⟨fun h' => seqL h' (.ref n) = some ws, ws⟩ h) : wE (srcW (.ref n) h) QS X := by
  unfold srcW
  simp only [seqL_of e1]
  exact q
theorem w_rg1 (a : wE (ml e h) (fun ws h1 => ∃ j : Int, ws = [.int j] ∧ (-(2 ^ 62) ≤ j ∧ j < 2 ^ 62) ∧ QS ⟨fun _ => True, intsFrom 0 j.toNat⟩ h1) X) : wE (mRg1 ml e h) QS X := wbE (a.imp fun ws h1 ⟨j, ew, c, q⟩ => by
  subst ew
  show wE (srcR 0 j h1) QS X
  unfold srcR
  rw [ifP_pos ⟨by omega, by omega, c.1, c.2⟩, show j - 0 = j by omega]
  exact q)
theorem x_for {msrc : ME Src} {g : W → MS} {mb : MS} (Inv : Nat → Ev → Hv → Prop)
    (a : wE (msrc e h) (fun s h1 => Inv 0 e h1 ∧ (∀ i w e h, s.ws[i]? = some w → Inv i e h → s.ok h ∧ wS (g w e h) (fun e1 h1 => wS (mb e1 h1) (Inv (i + 1)) T X N (Inv (i + 1))) nT nX nE nE) ∧ ∀ e h, Inv s.ws.length e h → s.ok h ∧ N e h) X) : wS (sFor msrc g mb e h) N T X B C :=
  x_eS (a.imp fun s h1 ⟨i0, turn, done⟩ => x_loop Inv i0 turn done)
theorem w_lcL {ok : Hv → Prop} {g : W → Ev → Option Ev} {tt : ME Bool} {te : ME W} {D : Nat} {ws : List W} (Inv : Nat → List W → Hv → Prop) (h0 : Inv 0 [] h)
    (turn : ∀ i w acc h, ws[i]? = some w → Inv i acc h → ok h ∧ ∃ e1, g w e = some e1 ∧ wE (tt e1 h) (fun b h1 => (b = true → wE (te e1 h1) (fun y h2 => h2[D]? = some (.lst acc) ∧ acc.length < sizeLine ∧ Inv (i + 1) (acc ++ [y]) (h2.set D (.lst (acc ++ [y])))) nX) ∧ (b = false → Inv (i + 1) acc h1)) nX)
    (done : ∀ acc h, Inv ws.length acc h → ok h ∧ Q (.ref D) h) : wE (lcL ok g tt te D e ws h) Q X := by
  suffices H : ∀ (l : List W) (i : Nat) (acc : List W) (h : Hv), ws.drop i = l → Inv i acc h → i ≤ ws.length → wE (lcL ok g tt te D e l h) Q X from H ws 0 [] h rfl h0 (Nat.zero_le _)
  intro l
  induction l with
  | nil =>
    intro i acc h hd hi hl
    have : i = ws.length := by
      have := congrArg List.length hd
      simp at this; omega
    subst this
    obtain ⟨a, b⟩ := done acc h hi
    show wE (ifP (ok h) (some (.ok (.ref D), h))) Q X
    rw [ifP_pos a]; exact b
  | cons w r ih =>
    intro i acc h hd hi hl
    have hw : ws[i]? = some w := by
      have := congrArg (·[0]?) hd
      simpa using this
    have hlt : i < ws.length := (List.getElem?_eq_some_iff.mp hw).1
    have hr : ws.drop (i + 1) = r := by
      have := congrArg (List.drop 1) hd
      simpa [List.drop_drop] using this
    obtain ⟨a, e1, eg, b⟩ := turn i w acc h hw hi
    unfold lcL
    rw [ifP_pos a]
    simp only [eg]
    match htt : tt e1 h, b with
    | some (.error x, h1), b => exact b.elim
    | some (.ok false, h1), b => exact ih (i + 1) acc h1 hr (b.2 rfl) hlt
    | some (.ok true, h1), b =>
      have b := b.1 rfl
      simp only
      match hte : te e1 h1, b with
      | some (.error x, h2), b => exact b.elim
      | some (.ok y, h2), b =>
        obtain ⟨b1, b2, b3⟩ := b
        simp only [lstAt_of b1]
        rw [if_pos b2]
        exact ih (i + 1) (acc ++ [y]) _ hr b3 hlt
theorem w_lc {msrc : ME Src} {g : W → Ev → Option Ev} {tt : ME Bool} {te : ME W} {vs : List Nat} (a : wE (msrc e h) (fun s h1 => wE (lcL s.ok g tt te h1.length (wipeE e vs) s.ws (h1 ++ [.lst []])) Q X) X) : wE (mLc msrc g tt te vs e h) Q X := wbE a
theorem w_all {n : Nat} {bs : List Bool} (e1 : h[n]? = some (.lst (bs.map W.bl))) (q : Q (.bl (bs.all id)) h) : wE (allM [.ref n] h) Q X := by
  have e2 : ∀ l : List Bool, asBs (l.map W.bl) = some l := fun l => by
    induction l with
    | nil => rfl
    | cons b l ih => simp [asBs, asB, ih]
  unfold allM boolsM one
  simp only [seqL_of e1, e2]
  exact q
theorem w_any {n : Nat} {bs : List Bool} (e1 : h[n]? = some (.lst (bs.map W.bl))) (q : Q (.bl (bs.any id)) h) : wE (anyM [.ref n] h) Q X := by
  have e2 : ∀ l : List Bool, asBs (l.map W.bl) = some l := fun l => by
    induction l with
    | nil => rfl
    | cons b l ih => simp [asBs, asB, ih]
  unfold anyM boolsM one
  simp only [seqL_of e1, e2]
  exact q
theorem w_join {mo me : ME W} (a : wE (mo e h) (fun x h1 => ∃ z, x = .str z ∧ wE (me e h1) (fun y h2 => ∃ (n : Nat) (ys : List Str), y = .ref n ∧ h2[n]? = some (.lst (ys.map W.str)) ∧ (ys.map (·.length)).sum + ys.length * z.length ≤ 16777216 ∧ Q (.str (Txt.join z ys)) h2) X) X) : wE (mJoin mo me e h) Q X :=
  wbE (a.imp fun x h1 ⟨z, ex, a⟩ => by
    subst ex
    refine wbE (show wE (tyc .str (.str z) h1) _ X from wbE (a.imp fun y h2 ⟨n, ys, ey, e1, c, q⟩ => ?_))
    subst ey
    have e2 : ∀ l : List Str, asSs (l.map W.str) = some l := fun l => by
      induction l with
      | nil => rfl
      | cons b l ih => simp [asSs, asS, ih]
    show wE (joinW (.str z) (.ref n) h2) Q X
    unfold joinW
    simp only [asS, seqLT_of e1, e2]
    rw [if_pos c]; exact q)
theorem w_listS {z : Str} (c : z.cps.size ≤ sizeLine) (q : Q (.ref h.length) (h ++ [.lst (signs z)])) : wE (listM [.str z] h) Q X := by
  unfold listM one listSM
  simp only [asS]
  rw [if_pos c]; exact q
theorem w_lenS {z : Str} (c : z.length ≤ sizeLine) (q : Q (.int z.length) h) : wE (lenM [.str z] h) Q X := by
  unfold lenM one lenSM
  simp only [asS]
  rw [if_pos c]; exact q
/-- of two texts -/
theorem w_inS {a b : Str} (q : Q (.bl (!(Builtin.Str.occurrences b a 0 b.length 1).isEmpty)) h) : wE (inM (.str a) (.str b) h) Q X := q
theorem w_inS1 {c : Nat} {b : Str} (q : Q (.bl (decide (c ∈ b.cps.toList))) h) : wE (inM (.str ⟨#[c]⟩) (.str b) h) Q X := by
  refine w_inS ?_
  rw [PySem.StrLaws.found_one]; exact q
theorem w_inF {x y : W} {ws : List W} (e1 : seqLT h y = some ws) (f1 : flatW x = true) (f2 : ws.all flatW = true) (q : Q (.bl (inV (fV x) (ws.map fV))) h) : wE (inM x y h) Q X := by
  have nb : bothS x y = false := by
    cases y with
    | str _ => cases e1
    | _ => unfold bothS asS; cases x <;> rfl
  show wE (inK id x y h) Q X
  unfold inK
  rw [nb, if_neg Bool.false_ne_true]
  have f3 : flat2 h x y = true := by unfold flat2; simp only [e1]; rw [f1, f2]; rfl
  rw [if_pos f3]
  unfold inFM
  simp only [e1]
  rw [if_pos ⟨f1, f2⟩]
  exact q
/-! ### what stood stands -/
def Gr (h h' : Hv) : Prop := ∀ (r : Nat) (v : AO), h[r]? = some v → h'[r]? = some v
theorem Gr.refl : Gr h h := fun _ _ e => e
theorem Gr.trans {h' h'' : Hv} (a : Gr h h') (b : Gr h' h'') : Gr h h'' := fun r v e => b r v (a r v e)
theorem Gr.app {o : AO} : Gr h (h ++ [o]) := fun _ _ e => at_app e
theorem Gr.toDs {h' : Hv} {f g : W → Option PyData} (k : ∀ w d, f w = some d → g w = some d) : ∀ {ws : List W} {ds : List PyData}, Z.toDs f ws = some ds → Z.toDs g ws = some ds
  | [], ds, e => e
  | w :: ws, ds, e => by
    have e : (match f w with
      | some d => (Z.toDs f ws).map (d :: ·)
      | none => none) = some ds := e
    show (match g w with
      | some d => (Z.toDs g ws).map (d :: ·)
      | none => none) = some ds
    cases e1 : f w with
    | none => rw [e1] at e; cases e
    | some d =>
      rw [e1] at e
      obtain ⟨r, er, e⟩ := Option.map_eq_some_iff.mp (show (Z.toDs f ws).map (d :: ·) = some ds from e)
      rw [k w d e1]
      show (Z.toDs g ws).map (d :: ·) = some ds
      rw [Gr.toDs (h' := h') k er]
      exact congrArg some e
theorem Gr.toD {h' : Hv} (g : Gr h h') : ∀ (n : Nat) (w : W) (d : PyData), Z.toD h n w = some d → Z.toD h' n w = some d := by
  intro n
  induction n with
  | zero => intro w d e; exact e
  | succ n ih =>
    intro w d e
    cases w with
    | tup ws =>
      obtain ⟨r, er, e⟩ := Option.map_eq_some_iff.mp (show (Z.toDs (Z.toD h n) ws).map PyData.tuple = some d from e)
      show (Z.toDs (Z.toD h' n) ws).map PyData.tuple = some d
      rw [Gr.toDs (h' := h') ih er]; exact congrArg some e
    | cl ws =>
      obtain ⟨r, er, e⟩ := Option.map_eq_some_iff.mp (show (Z.toDs (Z.toD h n) ws).map PyData.list = some d from e)
      show (Z.toDs (Z.toD h' n) ws).map PyData.list = some d
      rw [Gr.toDs (h' := h') ih er]; exact congrArg some e
    | ref k =>
      have e : (match lstAt h k with
        | some ws => (Z.toDs (Z.toD h n) ws).map PyData.list
        | none => none) = some d := e
      cases e1 : lstAt h k with
      | none => rw [e1] at e; cases e
      | some ws =>
        rw [e1] at e
        obtain ⟨r, er, e⟩ := Option.map_eq_some_iff.mp (show (Z.toDs (Z.toD h n) ws).map PyData.list = some d from e)
        show (match lstAt h' k with
          | some ws => (Z.toDs (Z.toD h' n) ws).map PyData.list
          | none => none) = some d
        rw [lstAt_of (g k _ (lstAt_eq e1))]
        show (Z.toDs (Z.toD h' n) ws).map PyData.list = some d
        rw [Gr.toDs (h' := h') ih er]; exact congrArg some e
    | _ => exact e
end
end Z
/-! Instances: attributes read and written, making them; code that is never come to. -/
namespace Z
open PySem PySem.Spec PyProof.Rows L2
section
variable {X : Cx} {Wx : WX} {pos p pos' : Pos} {o e value : Expr} {f x : Str} {mo mv ma : ME W} {st : Stmt} {sts : List Stmt}
/-- never come to -/
def sNo : MS := fun _ _ => none
def mNoE : ME W := fun _ _ => none
theorem s_no : PSm X Wx st sNo := ⟨PS_imp ps_never fun D σ H ⟨ι, e, AH, re, s, h⟩ => h.elim⟩
theorem m_noE : PEm X Wx e mNoE := ⟨⟨fun pins s σ H Q I ⟨ι, e, AH, re, sr, h⟩ => h.elim⟩⟩
/-! ### attributes -/
/-- the instance at a number, of one of these classes -/
def insAt (Cs : List Addr) (h : Hv) : W → Option (Nat × Addr × List (Str × W))
  | .ref n => match h[n]? with
    | some (.ins C fs) => if C ∈ Cs then some (n, C, fs) else none
    | _ => none
  | _ => none
theorem insAt_ok {K : PySem.W.Frag} {ι : List Addr} {H : Hp} {AH : Hv} {Cs : List Addr} {w : W} {v : V} {n : Nat} {C : Addr} {fs : List (Str × W)} (s : Sr K ι H AH) (r : RW K ι H w v) (e : insAt Cs AH w = some (n, C, fs)) :
    C ∈ Cs ∧ ∃ a dx vs, v = .ref a ∧ ι[n]? = some a ∧ H a = some (.ins C dx vs) ∧ RPs K ι H fs vs := by
  cases w with
  | ref k =>
    have e : (match AH[k]? with
      | some (.ins C fs) => if C ∈ Cs then some (k, C, fs) else none
      | _ => none) = some (n, C, fs) := e
    cases ho : AH[k]? with
    | none => rw [ho] at e; cases e
    | some ob =>
      rw [ho] at e
      cases ob with
      | ins D gs =>
        have e : (if D ∈ Cs then some (k, D, gs) else none) = some (n, C, fs) := e
        by_cases c : D ∈ Cs
        · rw [if_pos c] at e
          cases e
          obtain ⟨a, ha, ev⟩ := rw_ref r
          obtain ⟨dx, vs, e2, rp⟩ := s.at ha ho
          exact ⟨c, a, dx, vs, ev, ha, e2, rp⟩
        · rw [if_neg c] at e; cases e
      | _ => cases e
  | _ => cases e
theorem RPs.look {K : PySem.W.Frag} {ι : List Addr} {H : Hp} : ∀ {l : List (Str × W)} {m : List (Str × V)} {f : Str} {w : W}, RPs K ι H l m → l.lookup f = some w → ∃ v, m.lookup f = some v ∧ RW K ι H w v
  | [], m, f, w, r, e => by cases e
  | (k, u) :: l, m, f, w, r, e => by
    obtain ⟨e1, r1⟩ := r
    cases m with
    | nil => cases e1
    | cons q m =>
      obtain ⟨k2, v2⟩ := q
      obtain ⟨e3, e4⟩ := List.cons.inj (show k :: l.map (·.1) = k2 :: m.map (·.1) from e1)
      obtain ⟨v, vr, ev, rv, rr⟩ := rws_cons (show RWs K ι H (u :: l.map (·.2)) (v2 :: m.map (·.2)) from r1)
      obtain ⟨e5, e6⟩ := List.cons.inj ev
      subst e3; subst e5; subst e6
      rw [List.lookup_cons] at e ⊢
      cases hk : f == k with
      | true => rw [hk] at e; cases e; exact ⟨_, rfl, rv⟩
      | false => rw [hk] at e; exact RPs.look ⟨e4, rr⟩ e
def mFld (Cs : List Addr) (f : Str) (mo : ME W) : ME W := bE mo fun x => fun _ h => match insAt Cs h x with
  | some q => (match q.2.2.lookup f with
    | some w => some (.ok w, h)
    | none => none)
  | none => none
theorem m_fld {Cs : List Addr} (hc : ∀ C ∈ Cs, Cls X.K C ∧ NoAttr X.K C f) (he : PEm X Wx e mo) (hb : attributeBase e f X.env (eval e X.env) = eval e X.env := by rfl) : PEm X Wx (.Attribute e f pos) (mFld Cs f mo) :=
  .imp (pe_fld he.pe hb) fun σ H Q h => tG_bnd h fun ι1 w AH1 v H1 e re s1 r1 q => by
    cases e1 : insAt Cs AH1 w with
    | none => simp only [e1] at q; exact q.elim
    | some nc =>
      obtain ⟨n, C, fs⟩ := nc
      simp only [e1] at q
      cases e2 : fs.lookup f with
      | none => simp only [e2] at q; exact q.elim
      | some u =>
        simp only [e2] at q
        obtain ⟨m, a, dx, vs, rfl, ha, hi, rp⟩ := insAt_ok s1 r1 e1
        obtain ⟨u2, l2, r2⟩ := rp.look e2
        exact ⟨a, C, dx, vs, u2, rfl, hi, (hc C m).1, (hc C m).2, l2, q ι1 u2 H1 Le.refl s1 r2⟩
/-- a field set: as the hand layer's putF -/
def putW (f : Str) (w : W) : List (Str × W) → List (Str × W)
  | [] => [(f, w)]
  | (k, u) :: r => if k = f then (k, w) :: r else (k, u) :: putW f w r
theorem RPs.put {K : PySem.W.Frag} {ι : List Addr} {H : Hp} {f : Str} {w : W} {v : V} (rv : RW K ι H w v) : ∀ {l : List (Str × W)} {m : List (Str × V)}, RPs K ι H l m → RPs K ι H (putW f w l) (putF f v m) ∧ l.length = m.length
  | [], m, r => by
    have : m = [] := by
      have := r.1
      simpa using this.symm
    subst this
    exact ⟨⟨rfl, RWs.mk rv RWs.nl⟩, rfl⟩
  | (k, u) :: l, m, r => by
    obtain ⟨e1, r1⟩ := r
    cases m with
    | nil => cases e1
    | cons q m =>
      obtain ⟨k2, v2⟩ := q
      obtain ⟨e3, e4⟩ := List.cons.inj (show k :: l.map (·.1) = k2 :: m.map (·.1) from e1)
      obtain ⟨v', vr, ev, ru, rr⟩ := rws_cons (show RWs K ι H (u :: l.map (·.2)) (v2 :: m.map (·.2)) from r1)
      obtain ⟨e5, e6⟩ := List.cons.inj ev
      subst e3; subst e5; subst e6
      obtain ⟨ih, il⟩ := RPs.put rv ⟨e4, rr⟩
      refine ⟨?_, by rw [List.length_cons, List.length_cons, il]⟩
      unfold putW putF
      by_cases hk : k = f
      · rw [if_pos hk, if_pos hk]
        exact ⟨by rw [List.map_cons, List.map_cons, e4], RWs.mk rv rr⟩
      · rw [if_neg hk, if_neg hk]
        exact ⟨by rw [List.map_cons, List.map_cons, ih.1], RWs.mk ru ih.2⟩
/-- o.f = v -/
def sFldM (Cs : List Addr) (f : Str) (mo mv : ME W) : MS := eS mv fun y => eS mo fun x => fun e h => match insAt Cs h x with
  | some q => if q.2.2.length < 1000 then some (.ok .nx, e, h.set q.1 (.ins q.2.1 (putW f y q.2.2))) else none
  | none => none
theorem s_fld {Cs : List Addr} (hc : ∀ C ∈ Cs, Cls X.K C ∧ NoAttr X.K C f) (ho : PEm X Wx o mo) (hv : PEm X Wx value mv) (hs : swapsWith value (some (.Attribute o f pos')) pos.line X.env = pure false := by rfl) : PSm X Wx (.Assign [.Attribute o f pos'] value pos) (sFldM Cs f mo mv) :=
  ⟨PS_imp (ps_fld ho.pe hv.pe hs) fun D σ H q => tS_eS q fun ι1 w1 AH1 v1 H1 e re s1 r1 q => by
    obtain q := out_eS (R := RW X.K) re q
    refine ⟨ι1, e, AH1, re, s1, q.imp fun v2 H2 ⟨ι2, w2, AH2, l2, s2, r2, q2⟩ => ?_⟩
    have q2 : OutS X.K Wx ι2 H2 (match insAt Cs AH2 w2 with
      | some q => if q.2.2.length < 1000 then some (.ok .nx, e, AH2.set q.1 (.ins q.2.1 (putW f w1 q.2.2))) else none
      | none => none) D := q2
    cases e1 : insAt Cs AH2 w2 with
    | none => rw [e1] at q2; exact q2.elim
    | some nc =>
      obtain ⟨n, C, fs⟩ := nc
      rw [e1] at q2
      have q2 : OutS X.K Wx ι2 H2 (if fs.length < 1000 then some (.ok .nx, e, AH2.set n (.ins C (putW f w1 fs))) else none) D := q2
      by_cases hl : fs.length < 1000
      · rw [if_pos hl] at q2
        obtain ⟨m, a, dx, vs, rfl, ha, hi, rp⟩ := insAt_ok s2 r2 e1
        obtain ⟨rp2, len⟩ := rp.put (f := f) (RW.mono l2 _ _ r1)
        have le : Le X.K ι2 H2 ι2 (upd H2 a (.ins C dx (putF f v1 vs))) := Le.mu (s2.mut ha)
        refine ⟨a, C, dx, vs, rfl, hi, (hc C m).1, (hc C m).2, by rw [← len]; exact hl, ?_⟩
        exact q2 ι2 σ _ le (s2.set (o := .ins C (putW f w1 fs)) ha ⟨dx, _, upd_same, rp2.mono le⟩) (re.mono (l2.trans le))
      · rw [if_neg hl] at q2; exact q2.elim⟩
/-! ### making -/
section
variable {k n l : Nat} {fi C : Addr} {fd : FuncData} {ps ks : List Str} {F : List W → M W} {es : List Expr} {kws : List Keyword} {ml mk : ME (List W)} {sel : List Nat} {dws : List W} {dvs : List V}
def makeM (C : Addr) (F : List W → M W) (sel : List Nat) (dws : List W) (l : List W) : M W := fun h => match F (pick sel (W.ref h.length :: (l ++ dws))) (h ++ [.ins C []]) with
  | some (.ok .non, h') => some (.ok (.ref h.length), h')
  | some (.error x, h') => some (.error x, h')
  | _ => none
def mMake (C : Addr) (n m : Nat) (F : List W → M W) (sel : List Nat) (dws : List W) (ma mk : ME (List W)) : ME W := bE ma fun ws => bE mk fun zs => fun _ h => if ws.length = n ∧ zs.length = m then makeM C F sel dws (ws ++ zs) h else none
theorem make_go (Mc : Mk X.K C fi) (G : FM X.prog X.w X.K X.mg X.base k fi fd ps F) (hr : Room (k + 1) X.A) (hG : X.A.guards = some []) (tk : L2N.Takes X Wx) (hb : KBs X.K fd ps (n + 1) ks sel dvs) (hd : ∀ ι H, RWs X.K ι H dws dvs) (ok : SelOk sel (n + 1) ks.length dvs ps)
    {pins : List (Addr × Obj)} {σ : L2.St} {H : Hp} {s : Shared} {Q : VK} {us ws : List Value} {vs zs : List V} (I : Inv X pins σ H s) (r1 : Vals vs us) (r2 : Vals zs ws) (h : KwAt X Wx n ks.length (makeM C F sel dws) Q σ vs zs H) :
    wpAny (model X.prog X.w) X.A (call (.ref C) us (ks.zip ws)) (EP X pins σ Q) X.xe s := by
  obtain ⟨ι, wl, zl, AH, l1, l2, rw1, rw2, sr, q⟩ := h
  obtain ⟨ds, rd, bind⟩ := hb.bind
  let nx := s.heap.objs.size + 1
  let dx := s.heap.objs.size
  have f1 : H nx = none := I.hok.fresh (Nat.le_succ _)
  have f2 : H dx = none := I.hok.fresh (Nat.le_refl _)
  have ne : nx ≠ dx := Nat.succ_ne_self _
  have J := Inv.made (C := C) I
  let H2 : Hp := upd (upd H dx (.own nx)) nx (.ins C dx [])
  have sr1 : Sr X.K ι (upd H dx (.own nx)) AH := sr.untr f2
  have f3 : (upd H dx (.own nx)) nx = none := by rw [upd_ne ne]; exact f1
  have sr2 : Sr X.K (ι ++ [nx]) H2 (AH ++ [.ins C []]) := sr1.alloc (o := .ins C []) f3 ⟨dx, [], upd_same, rfl, RWs.nl⟩
  have le : Le X.K ι H (ι ++ [nx]) H2 := (Le.free f2).trans (Le.more f3)
  have rn : RW X.K (ι ++ [nx]) H2 (.ref AH.length) (.ref nx) := ⟨nx, by rw [← sr.len]; simp, rfl⟩
  have rr : RWs X.K (ι ++ [nx]) H2 (W.ref AH.length :: (wl ++ zl ++ dws)) (V.ref nx :: (vs ++ zs ++ dvs)) := RWs.mk rn (((RWs.mono le _ _ rw1).append (RWs.mono le _ _ rw2)).append (hd _ _))
  have vv : Vals (V.ref nx :: (vs ++ zs ++ dvs)) (Value.ref nx :: (us ++ ws ++ ds)) := .cons rfl ((r1.append r2).append rd)
  have e1 : (Value.ref nx :: us).length = n + 1 := by rw [List.length_cons, ← r1.length, ← rw1.length, l1]
  have e2 : ws.length = ks.length := by rw [← r2.length, ← rw2.length, l2]
  have lenp : (pick sel (V.ref nx :: (vs ++ zs ++ dvs))).length = ps.length := by
    rw [pick_len, ok.len]
    intro i hi
    have := ok.lt i hi
    rw [List.length_cons, List.length_append, List.length_append, r1.length, r2.length]
    rw [List.length_cons] at e1
    omega
  have sp : spM X.K ps.length F (pick sel (V.ref nx :: (vs ++ zs ++ dvs))) H2 (fun v H3 => v = .non ∧ Q (.ref nx) H3) (WE Wx σ) := by
    refine ⟨lenp, ι ++ [nx], _, AH ++ [.ins C []], rr.pick sel, sr2, ?_⟩
    have q := q.le le
    unfold makeM at q
    cases hF : F (pick sel (W.ref AH.length :: (wl ++ zl ++ dws))) (AH ++ [.ins C []]) with
    | none => simp only [hF] at q; exact q.elim
    | some z =>
      obtain ⟨rz, h'⟩ := z
      simp only [hF] at q
      cases rz with
      | error x => exact q
      | ok u =>
        cases u with
        | non => exact fun ι' v H' l s r => ⟨r, q ι' (.ref nx) H' l s (RW.mono l _ _ rn)⟩
        | _ => exact q.elim
  have bt := bind _ (.ref nx :: us) ws J.kIn e1 e2
  refine wpAny_call (make_map (f := fi) I.kIn Mc.makes Mc.init (beq_iff_eq.mp Mc.fn) (codeAny_mono (G.go _ X.stack _ H2 _ _ _ _ _ (hr.make C us (ks.zip ws)) hG (J.env0.make C us (ks.zip ws)) bt (Vals_pick vv sel) sp) fun r s' hq => ?_))
  cases r with
  | error e => exact L2N.passAt tk σ pins H2 _ e s' J hq
  | ok fl =>
    cases fl with
    | ret u =>
      obtain ⟨v, H3, J3, rv, ev, q3⟩ := J.after hq
      cases ev
      exact ⟨rv, V.ref nx, H3, J3, rfl, q3⟩
    | _ => exact hq.elim
/-- C(k = v, ..) -/
theorem m_makeK0 (Mc : Mk X.K C fi) (G : FM X.prog X.w X.K X.mg X.base k fi fd ps F) (hr : Room (k + 1) X.A) (hG : X.A.guards = some []) (tk : L2N.Takes X Wx) (hg : Gl X x) (hm : X.mg x = some (.ref C)) (hb : KBs X.K fd ps 1 ks sel dvs) (hd : ∀ ι H, RWs X.K ι H dws dvs) (ok : SelOk sel 1 ks.length dvs ps)
    (hkw : PKm X Wx kws mk) (hall : (backToKw pos (keywordEach kws X.env)).all (·.1.isSome) = true := by rfl) (hks : (backToKw pos (keywordEach kws X.env)).filterMap (·.1) = ks := by rfl) (hdb : (x == ("__debug__" : Str)) = false := by decide)
    (hpl : ((backTo pos (starEach [] X.env)).any (·.1) || (backToKw pos (keywordEach kws X.env)).any (·.1.isNone)) = false := by rfl) (hl : ks.length = l := by rfl) :
    PEm X Wx (.Call (.Name x p) [] kws pos) (mMake C 0 l F sel dws mNil mk) := by
  subst hl
  refine ⟨⟨fun pins s σ H Q I h => wpAny_Call_Name_kw (ld_glob I hg hm ?_ hdb)⟩⟩
  refine PySem.W.callWith_KW0 (h₀ := X.base) I.ok.mod.kin Mc.kp hall ?_ hpl
  obtain ⟨ι, e, AH, re, sr, h⟩ := kw_values (G := makeM C F sel dws) h
  refine thn (hkw.pk.run pos pins s σ H _ I (h ι [] H Le.refl sr RWs.nl)) fun ws s2 z => ?_
  obtain ⟨zs, H2, I2, r2, q2⟩ := z
  refine ⟨I2.kIn, ?_⟩
  rw [hks]
  exact make_go Mc G hr hG tk hb hd ok I2 .nil r2 q2
/-- C(e, .., k = v, ..) -/
theorem m_makeK (Mc : Mk X.K C fi) (G : FM X.prog X.w X.K X.mg X.base k fi fd ps F) (hr : Room (k + 1) X.A) (hG : X.A.guards = some []) (tk : L2N.Takes X Wx) (hg : Gl X x) (hm : X.mg x = some (.ref C)) (hb : KBs X.K fd ps (n + 1) ks sel dvs) (hd : ∀ ι H, RWs X.K ι H dws dvs) (ok : SelOk sel (n + 1) ks.length dvs ps)
    (ha : PAm X Wx (e :: es) ml) (hkw : PKm X Wx kws mk) (hall : (backToKw pos (keywordEach kws X.env)).all (·.1.isSome) = true := by rfl) (hks : (backToKw pos (keywordEach kws X.env)).filterMap (·.1) = ks := by rfl) (hdb : (x == ("__debug__" : Str)) = false := by decide)
    (he : starEach (e :: es) X.env = (false, eval e X.env) :: starEach es X.env := by rfl) (hpl : ((backTo pos (starEach (e :: es) X.env)).any (·.1) || (backToKw pos (keywordEach kws X.env)).any (·.1.isNone)) = false := by rfl) (hl : ks.length = l := by rfl) :
    PEm X Wx (.Call (.Name x p) (e :: es) kws pos) (mMake C n l F sel dws ml mk) := by
  subst hl
  refine ⟨⟨fun pins s σ H Q I h => wpAny_Call_Name_kw (ld_glob I hg hm ?_ hdb)⟩⟩
  refine PySem.W.callWith_KW (h₀ := X.base) I.ok.mod.kin Mc.kp hall (thn (ha.pa.run pos pins s σ H _ I (kw_values (G := makeM C F sel dws) h)) fun us s1 z => ?_) hpl he
  obtain ⟨vs, H1, I1, r1, q1⟩ := z
  refine thn (hkw.pk.run pos pins s1 σ H1 _ I1 q1) fun ws s2 z => ?_
  obtain ⟨zs, H2, I2, r2, q2⟩ := z
  refine ⟨I2.kIn, ?_⟩
  rw [hks]
  exact make_go Mc G hr hG tk hb hd ok I2 r1 r2 q2
end
end
end Z
/-! Dicts with keys ints and texts. -/
namespace Z
open PySem PySem.Spec PyProof.Rows L2
theorem u1 {k : Nat} {A : Around} (r : Room k A) : A.units + 1 < cLine := by have := r.un; omega
def keyW : W → Option Key
  | .int i => some (.inl i)
  | .str z => some (.inr z)
  | _ => none
def valW (kvs : List (Key × W)) (k : Key) : Option W := (kvs.find? fun kv => decide (kv.1 = k)).map (·.2)
def putKW (kvs : List (Key × W)) (k : Key) (w : W) : List (Key × W) :=
  if (kvs.any fun kv => decide (kv.1 = k)) = true then kvs.map fun kv => if kv.1 = k then (kv.1, w) else kv else kvs ++ [(k, w)]
section
variable {K : PySem.W.Frag} {ι : List Addr} {H : Hp}
theorem keyW_ok {w : W} {v : V} {k : Key} (r : RW K ι H w v) (e : keyW w = some k) : v = kV k := by
  cases w with
  | int i => cases e; rw [rw_int r]; rfl
  | str z => cases e; rw [rw_str r]; rfl
  | _ => cases e
theorem rps_cons {κ : Type} {p : κ × W} {l : List (κ × W)} {m : List (κ × V)} (r : RPs K ι H (p :: l) m) : ∃ v t, m = (p.1, v) :: t ∧ RW K ι H p.2 v ∧ RPs K ι H l t := by
  obtain ⟨e1, r1⟩ := r
  cases m with
  | nil => cases e1
  | cons q m =>
    obtain ⟨k2, v2⟩ := q
    obtain ⟨e3, e4⟩ := List.cons.inj (show p.1 :: l.map (·.1) = k2 :: m.map (·.1) from e1)
    obtain ⟨v', vr, ev, ru, rr⟩ := rws_cons (show RWs K ι H (p.2 :: l.map (·.2)) (v2 :: m.map (·.2)) from r1)
    obtain ⟨e5, e6⟩ := List.cons.inj ev
    subst e3; subst e5; subst e6
    exact ⟨v2, m, rfl, ru, e4, rr⟩
theorem rps_nil {κ : Type} {m : List (κ × V)} (r : RPs K ι H ([] : List (κ × W)) m) : m = [] := by
  have := r.1
  simpa using this.symm
theorem RPs.mk {κ : Type} {k : κ} {w : W} {v : V} {l : List (κ × W)} {m : List (κ × V)} (rv : RW K ι H w v) (r : RPs K ι H l m) : RPs K ι H ((k, w) :: l) ((k, v) :: m) := ⟨by rw [List.map_cons, List.map_cons, r.1], RWs.mk rv r.2⟩
theorem RPs.val {k : Key} {w : W} : ∀ {l : List (Key × W)} {m : List (Key × V)}, RPs K ι H l m → valW l k = some w → ∃ v, valV m k = some v ∧ RW K ι H w v
  | [], m, r, e => by cases e
  | p :: l, m, r, e => by
    obtain ⟨v, t, rfl, rv, rt⟩ := rps_cons r
    unfold valW at e
    unfold valV
    by_cases c : p.1 = k
    · simp only [List.find?_cons, c, decide_true, Option.map_some] at e ⊢
      cases e
      exact ⟨v, rfl, rv⟩
    · have e : valW l k = some w := by
        simp only [List.find?_cons, c, decide_false] at e
        exact e
      obtain ⟨v', h1, h2⟩ := RPs.val rt e
      refine ⟨v', ?_, h2⟩
      simp only [List.find?_cons, c, decide_false]
      exact h1
theorem RPs.noval {k : Key} : ∀ {l : List (Key × W)} {m : List (Key × V)}, RPs K ι H l m → valW l k = none → valV m k = none
  | [], m, r, e => by rw [rps_nil r]; rfl
  | p :: l, m, r, e => by
    obtain ⟨v, t, rfl, rv, rt⟩ := rps_cons r
    unfold valW at e
    unfold valV
    by_cases c : p.1 = k
    · simp only [List.find?_cons, c, decide_true, Option.map_some] at e
      cases e
    · simp only [List.find?_cons, c, decide_false] at e ⊢
      exact RPs.noval rt e
theorem RPs.anyK {k : Key} : ∀ {l : List (Key × W)} {m : List (Key × V)}, RPs K ι H l m → (l.any fun kv => decide (kv.1 = k)) = m.any fun kv => decide (kv.1 = k)
  | [], m, r => by rw [rps_nil r]; rfl
  | p :: l, m, r => by
    obtain ⟨v, t, rfl, rv, rt⟩ := rps_cons r
    rw [List.any_cons, List.any_cons, RPs.anyK rt]
theorem RPs.repl {k : Key} {w : W} {v : V} (rv : RW K ι H w v) : ∀ {l : List (Key × W)} {m : List (Key × V)}, RPs K ι H l m → RPs K ι H (l.map fun kv => if kv.1 = k then (kv.1, w) else kv) (m.map fun kv => if kv.1 = k then (kv.1, v) else kv)
  | [], m, r => by rw [rps_nil r]; exact ⟨rfl, RWs.nl⟩
  | p :: l, m, r => by
    obtain ⟨u, t, rfl, ru, rt⟩ := rps_cons r
    rw [List.map_cons, List.map_cons]
    by_cases c : p.1 = k
    · rw [if_pos c, if_pos c]; exact RPs.mk rv (RPs.repl rv rt)
    · rw [if_neg c, if_neg c]; exact RPs.mk (k := p.1) ru (RPs.repl rv rt)
theorem RPs.snoc {k : Key} {w : W} {v : V} (rv : RW K ι H w v) : ∀ {l : List (Key × W)} {m : List (Key × V)}, RPs K ι H l m → RPs K ι H (l ++ [(k, w)]) (m ++ [(k, v)])
  | [], m, r => by rw [rps_nil r]; exact RPs.mk rv ⟨rfl, RWs.nl⟩
  | p :: l, m, r => by
    obtain ⟨u, t, rfl, ru, rt⟩ := rps_cons r
    exact RPs.mk (k := p.1) ru (RPs.snoc rv rt)
theorem RPs.putK {k : Key} {w : W} {v : V} {l : List (Key × W)} {m : List (Key × V)} (rv : RW K ι H w v) (r : RPs K ι H l m) : RPs K ι H (putKW l k w) (L2.putK m k v) := by
  unfold putKW L2.putK
  rw [r.anyK]
  by_cases c : (m.any fun kv => decide (kv.1 = k)) = true
  · rw [if_pos c, if_pos c]; exact r.repl rv
  · rw [if_neg c, if_neg c]; exact r.snoc rv
end
section
variable {X : Cx} {Wx : WX} {pos : Pos} {o e : Expr} {mo me ma mb : ME W}
/-! ### d[k] -/
def dgetM (x y : W) : M W := fun h => match mdk h x, keyW y with
  | some q, some k => (match valW q.2 k with
    | some w => some (.ok w, h)
    | none => none)
  | _, _ => none
theorem m_dget (hu : X.A.units + 1 < cLine) (ho : PEm X Wx o mo) (he : PEm X Wx e me) (hs : NoSl e := by intro _ _; rfl) : PEm X Wx (.Subscript o e pos) (mB2 dgetM mo me) :=
  .imp (pe_dget hu ho.pe he.pe hs) fun σ H Q h => tG_bnd h fun ι1 w1 AH1 v1 H1 e re s1 r1 q => by
    obtain q := Out.bnd (R := RW X.K) q
    refine ⟨ι1, e, AH1, re, s1, q.imp fun v2 H2 ⟨ι2, w2, AH2, l2, s2, r2, q2⟩ => ?_⟩
    have q2 : Out X.K (RW X.K) (wx Wx σ) ι2 H2 (dgetM w1 w2 AH2) Q := q2
    unfold dgetM at q2
    cases e1 : mdk AH2 w1 with
    | none => simp only [e1] at q2; exact q2.elim
    | some nk =>
      cases e2 : keyW w2 with
      | none => simp only [e1, e2] at q2; exact q2.elim
      | some k =>
        simp only [e1, e2] at q2
        cases e3 : valW nk.2 k with
        | none => simp only [e3] at q2; exact q2.elim
        | some w =>
          simp only [e3] at q2
          obtain ⟨a, vs, rfl, ha, hd, rp⟩ := mdk_ok s2 (RW.mono l2 _ _ r1) (n := nk.1) (ws := nk.2) e1
          obtain ⟨v, hv, rv⟩ := rp.val e3
          refine ⟨a, v, rfl, ?_, q2 ι2 v H2 Le.refl s2 rv⟩
          rw [keyW_ok r2 e2, ← hv]
          exact DGet.k hd
/-! ### k in d -/
def dinM (k0 : Bool → Bool) (y x : W) : M W := fun h => match mdk h x, keyW y with
  | some q, some k => some (.ok (.bl (k0 (valW q.2 k).isSome)), h)
  | _, _ => none
theorem RPs.isSome {K : PySem.W.Frag} {ι : List Addr} {H : Hp} {k : Key} {l : List (Key × W)} {m : List (Key × V)} (r : RPs K ι H l m) : (valV m k).isSome = (valW l k).isSome := by
  cases e : valW l k with
  | none => rw [r.noval e]; rfl
  | some w => obtain ⟨v, hv, _⟩ := r.val e; rw [hv]; rfl
theorem keeps_din {k0 : Bool → Bool} {r : R2} (hr : ∀ y a kvs k H Q, H a = some (.dK kvs) → y = kV k → Q (.bl (k0 (valV kvs k).isSome)) H → r y (.ref a) H Q) : Keeps2 X r (dinM k0) := by
  intro Xx ι AH H w1 w2 v1 v2 Q s r1 r2 h
  unfold dinM at h
  cases e1 : mdk AH w2 with
  | none => rw [e1] at h; exact h.elim
  | some nk =>
    cases e2 : keyW w1 with
    | none => rw [e1, e2] at h; exact h.elim
    | some k =>
      rw [e1, e2] at h
      obtain ⟨a, vs, rfl, ha, hd, rp⟩ := mdk_ok s r2 (n := nk.1) (ws := nk.2) e1
      refine hr v1 a vs k H Q hd (keyW_ok r1 e2) ?_
      rw [rp.isSome]
      exact h ι _ H Le.refl s (show V.bl _ = _ from rfl)
theorem op_din (hu : X.A.units + 1 < cLine) : OpM X (compareOp .In) (dinM id) := ⟨fun x y H Q => ∃ a kvs k, y = .ref a ∧ H a = some (.dK kvs) ∧ x = kV k ∧ Q (.bl (valV kvs k).isSome) H,
  fun pins s σ H x y v u Q I rx ry ⟨a, kvs, k, ey, hd, ex, q⟩ => by
    subst ey
    obtain rfl : u = Value.ref a := ry
    exact d_in hu I (ex ▸ DGet.k hd) rx fun s' I' => ⟨.bl _, H, I', rfl, q⟩, keeps_din fun y a kvs k H Q hd ey q => ⟨a, kvs, k, rfl, hd, ey, q⟩⟩
theorem op_dnin (hu : X.A.units + 1 < cLine) : OpM X (compareOp .NotIn) (dinM not) := ⟨fun x y H Q => ∃ a kvs k, y = .ref a ∧ H a = some (.dK kvs) ∧ x = kV k ∧ Q (.bl (!(valV kvs k).isSome)) H,
  fun pins s σ H x y v u Q I rx ry ⟨a, kvs, k, ey, hd, ex, q⟩ => by
    subst ey
    obtain rfl : u = Value.ref a := ry
    exact d_notIn hu I (ex ▸ DGet.k hd) rx fun s' I' => ⟨.bl _, H, I', rfl, q⟩, keeps_din fun y a kvs k H Q hd ey q => ⟨a, kvs, k, rfl, hd, ey, q⟩⟩
/-! ### d[k] = v -/
def setDM (x y z : W) (h : Hv) : Option Hv := match mdk h x, keyW y with
  | some q, some k => if q.2.length < sizeLine then some (h.set q.1 (.dk (putKW q.2 k z))) else none
  | _, _ => none
theorem st_dict (hu : X.A.units + 1 < cLine) : SetM X setDM := by
  refine ⟨_, set_dict hu, fun ι AH H w1 w2 w3 v1 v2 v3 Q s r1 r2 r3 q => ?_⟩
  unfold setDM at q
  cases e1 : mdk AH w1 with
  | none => simp only [e1] at q; exact q.elim
  | some nk =>
    cases e2 : keyW w2 with
    | none => simp only [e1, e2] at q; exact q.elim
    | some k =>
      simp only [e1, e2] at q
      by_cases c : nk.2.length < sizeLine
      · rw [if_pos c] at q
        obtain ⟨a, vs, rfl, ha, hd, rp⟩ := mdk_ok s r1 (n := nk.1) (ws := nk.2) e1
        have le : Le X.K ι H ι (upd H a (.dK (L2.putK vs k v3))) := Le.mu (s.mut ha)
        refine ⟨a, _, rfl, ?_, q _ le (s.set (o := .dk (putKW nk.2 k w3)) ha ⟨_, upd_same, (rp.putK r3).mono le⟩)⟩
        rw [keyW_ok r2 e2]
        exact DPut.k hd (by rw [← rp.length]; exact c)
      · rw [if_neg c] at q; exact q.elim
/-! ### {k: v, ..} -/
def mPrs : List (ME W × ME W) → ME (List (Key × W))
  | [] => fun _ h => some (.ok [], h)
  | (mk, mv) :: r => bE mk fun x => bE mv fun y => bE (mPrs r) fun ps => fun _ h => match keyW x with
    | some k => some (.ok ((k, y) :: ps), h)
    | none => none
def mergeW (kvs more : List (Key × W)) : List (Key × W) := more.foldl (fun acc kv => putKW acc kv.1 kv.2) kvs
theorem RPs.merge {K : PySem.W.Frag} {ι : List Addr} {H : Hp} : ∀ {b : List (Key × W)} {d : List (Key × V)} {a : List (Key × W)} {c : List (Key × V)}, RPs K ι H a c → RPs K ι H b d → RPs K ι H (mergeW a b) (mergeK c d)
  | [], d, a, c, r, q => by rw [rps_nil q]; exact r
  | p :: b, d, a, c, r, q => by
    obtain ⟨v, t, rfl, rv, rt⟩ := rps_cons q
    show RPs K ι H (mergeW (putKW a p.1 p.2) b) (mergeK (L2.putK c p.1 v) t)
    exact RPs.merge (b := b) (RPs.putK rv r) rt
structure PPm (X : Cx) (Wx : WX) (pos : Pos) (keys : List (Option Expr)) (values : List Expr) (ms : List (ME W × ME W)) : Prop where
  pp : PPs X pos keys values (ms.map fun p => (tE X.K Wx p.1, tE X.K Wx p.2))
theorem p_nil : PPm X Wx pos [] [] [] := ⟨pps_nil⟩
theorem p_cons {k v : Expr} {ks : List (Option Expr)} {vs : List Expr} {mk mv : ME W} {ms : List (ME W × ME W)} (hk : PEm X Wx k mk) (hv : PEm X Wx v mv) (hr : PPm X Wx pos ks vs ms) : PPm X Wx pos (some k :: ks) (v :: vs) ((mk, mv) :: ms) := ⟨pps_cons hk.pe hv.pe hr.pp⟩
theorem t_prs {K : PySem.W.Frag} {Wx : WX} {σ : L2.St} : ∀ (ms : List (ME W × ME W)) (ι : List Addr) (e : Ev) (AH : Hv) (H : Hp) (Q : List (V × V) → Hp → Prop), RE K ι H e σ → Sr K ι H AH →
    Out K (fun ι H (l : List (Key × W)) (m : List (Key × V)) => RPs K ι H l m) (wx Wx σ) ι H (mPrs ms e AH) (fun m H' => Q (m.map fun kv => (kV kv.1, kv.2)) H') → tPairs (ms.map fun p => (tE K Wx p.1, tE K Wx p.2)) σ H Q
  | [], ι, e, AH, H, Q, re, s, o => o ι [] H Le.refl s ⟨rfl, RWs.nl⟩
  | (mk, mv) :: ms, ι, e, AH, H, Q, re, s, o => by
    obtain o := Out.bnd (R := RW K) o
    refine ⟨ι, e, AH, re, s, o.imp fun x H1 ⟨ι1, w1, AH1, l1, s1, r1, o1⟩ => ?_⟩
    obtain o1 := Out.bnd (R := RW K) o1
    refine ⟨ι1, e, AH1, re.mono l1, s1, o1.imp fun y H2 ⟨ι2, w2, AH2, l2, s2, r2, o2⟩ => ?_⟩
    obtain o2 := Out.bnd (R := fun ι H (l : List (Key × W)) (m : List (Key × V)) => RPs K ι H l m) o2
    refine t_prs ms ι2 e AH2 H2 _ (re.mono (l1.trans l2)) s2 (o2.imp fun m H3 ⟨ι3, l, AH3, l3, s3, r3, o3⟩ => ?_)
    cases ek : keyW w1 with
    | none => simp only [ek] at o3; exact o3.elim
    | some k =>
      simp only [ek] at o3
      have := o3 ι3 ((k, y) :: m) H3 Le.refl s3 (RPs.mk (RW.mono l3 _ _ r2) r3)
      rw [keyW_ok r1 ek]
      exact this
def mDsp (ms : List (ME W × ME W)) : ME W := fun e h => match mPrs ms e (h ++ [.dk []]) with
  | some (.ok l, h') => (match dkAt h' h.length with
    | some [] => if l.length ≤ 15 then some (.ok (.ref h.length), h'.set h.length (.dk (mergeW [] l))) else none
    | _ => none)
  | some (.error x, h') => some (.error x, h')
  | none => none
theorem m_disp {keys : List (Option Expr)} {values : List Expr} {ms : List (ME W × ME W)} (h : PPm X Wx pos keys values ms) (hall : keys.all (·.isSome) = true := by rfl) (hl : keys.length = values.length := by rfl) (h0 : keys ≠ [] := by intro z; cases z) (h15 : keys.length ≤ 15 := by decide) : PEm X Wx (.Dict keys values pos) (mDsp ms) :=
  .imp (pe_disp h.pp hall hl h0 h15) fun σ H Q ⟨ι, e, AH, re, s, q⟩ => fun p hp => by
    have s2 := s.alloc (o := .dk []) (u := .dK []) hp ⟨[], upd_same, rfl, RWs.nl⟩
    have l2 : Le X.K ι H (ι ++ [p]) (upd H p (.dK [])) := Le.more hp
    have atp : (ι ++ [p])[AH.length]? = some p := by rw [← s.len]; simp
    refine t_prs ms (ι ++ [p]) e _ _ _ (re.mono l2) s2 ?_
    unfold mDsp at q
    cases hm : mPrs ms e (AH ++ [.dk []]) with
    | none => simp only [hm] at q; exact q.elim
    | some z =>
      obtain ⟨rz, h'⟩ := z
      simp only [hm] at q
      cases rz with
      | error x => exact q.le l2
      | ok l =>
        simp only at q
        intro ι3 m H3 l3 s3 r3
        cases hd : dkAt h' AH.length with
        | none => simp only [hd] at q; exact q.elim
        | some kv =>
          cases kv with
          | cons _ _ => simp only [hd] at q; exact q.elim
          | nil =>
            simp only [hd] at q
            obtain ⟨c, q⟩ := out_ite q
            have ap := l3.at atp
            obtain ⟨vs, hv, rv⟩ := s3.at ap (dkAt_eq hd)
            obtain rfl := rps_nil rv
            have le : Le X.K ι3 H3 ι3 (upd H3 p (.dK (mergeK [] m))) := Le.mu (s3.mut ap)
            refine ⟨hv, m, rfl, by rw [← r3.length]; exact c, ?_⟩
            exact q ι3 (.ref p) _ (l2.trans (l3.trans le)) (s3.set (o := .dk (mergeW [] l)) ap ⟨_, upd_same, (RPs.merge ⟨rfl, RWs.nl⟩ r3).mono le⟩) ⟨p, ap, rfl⟩
end
end Z
/-! A dict that the module wrote down: text keys, ints. -/
namespace Z
open PySem PySem.Spec PyProof.Rows L2
structure KTab (K : PySem.W.Frag) (w : World) (d : Addr) (kvs : List (Str × Int)) : Prop where
  ex : ∃ es n, KDict K w d es n ∧ es.size = kvs.length ∧ ∀ (i : Nat) (k : Str) (v : Int), kvs[i]? = some (k, v) → ∃ en t, es[i]? = some en ∧ en.key = .str k t
  vals : ∀ p ∈ kvs, ∃ u, PySem.W.nsIn K d p.1 = some (some u) ∧ RelV (.int p.2) u
/-- its keys, in order -/
def ItkK (kvs : List (Str × Int)) : It := ⟨fun i _ => i < kvs.length, fun i H x H' => H' = H ∧ ∃ k v, kvs[i]? = some (k, v) ∧ x = .str k, fun i _ => kvs.length ≤ i⟩
section
variable {P : Program} {w : World} {K : PySem.W.Frag} {tg : Expr} {d : Addr} {kvs : List (Str × Int)}
theorem turn_kd {es : Array DictEntry} {n : Nat} (it : Addr) (D : KDict K w d es n) (hz : es.size = kvs.length) (hk : ∀ (i : Nat) (k : Str) (v : Int), kvs[i]? = some (k, v) → ∃ en t, es[i]? = some en ∧ en.key = .str k t) :
    Turn P w K tg (ItkK kvs) [it] it (fun i h => h.IsKeyIter it d i kvs.length n) where
  mem := by simp
  obj := fun i h st b hb => by
    obtain rfl : b = it := by simpa using hb
    obtain ⟨oi, e, _, dd⟩ := st
    exact ⟨oi, e, fun v z => by rw [dd] at z; cases z⟩
  keep := fun i h h' st k => st.at fun oi e => k it (by simp) oi e
  item := by
    intro X hP hw hK hc i pins s σ H E I hf st hg
    subst hP; subst hw; subst hK
    obtain ⟨f0, f1, f2, f3, f4, f5⟩ := hf it (by simp)
    have hi : i < kvs.length := hg
    obtain ⟨en, t, hen, hkey⟩ := hk i kvs[i].1 kvs[i].2 (List.getElem?_eq_getElem hi)
    refine next_key_item st (I.kIn d _ D.at_) rfl hz hen fun h' st2 sb => ?_
    have J : Inv X pins σ H { s with heap := h' } := I.turned (t' := s.toks) (fun b ob nb e => (sb.2 b nb).trans e) f0 f1 f3 f4 f5
    obtain ⟨oi, e, c, dd⟩ := id st2
    exact ⟨en.key, rfl, go_of (s := { s with heap := h' }) e c dd (by decide) ⟨.str kvs[i].1, H, J, ⟨t, hkey⟩, ⟨rfl, kvs[i].1, kvs[i].2, List.getElem?_eq_getElem hi, rfl⟩, st2, fun b hb => (hf b hb).1⟩⟩
  done := by
    intro X hP hw hK hc i pins s σ H E I hf st hg
    subst hP; subst hw; subst hK
    obtain ⟨f0, f1, f2, f3, f4, f5⟩ := hf it (by simp)
    exact next_key_end (I.ok.hd hc) st (I.kIn d _ D.at_) rfl hz hg fun h' eb => ⟨rfl, I.turned (t' := s.toks) (fun b ob nb e => eb b ob nb e) f0 f1 f3 f4 f5⟩
  self := fun A i s Q E st h => wpAny_pyIter_keyiter st h
end
section
variable {X : Cx} {Wx : WX} {pos p : Pos} {tg e : Expr} {me : ME W} {x : Str} {d : Addr} {kvs : List (Str × Int)}
def mKeys (kvs : List (Str × Int)) : ME Src := fun _ h => some (.ok ⟨fun _ => True, kvs.map fun p => .str p.1⟩, h)
/-- for .. in TABLE -/
theorem i_kd (T : KTab X.K X.w d kvs) (hg : Gl X x) (hm : X.mg x = some (.ref d)) (hd : (x == ("__debug__" : Str)) = false := by decide) : PIm X Wx tg (.Name x p) (mKeys kvs) := by
  obtain ⟨es, n, D, hz, hk⟩ := T.ex
  refine ⟨⟨fun pins s σ H R I h => ?_⟩⟩
  obtain ⟨ι, e, AH, re, sr, q⟩ := h
  have q : ∀ ι1 v H1, Le X.K ι H ι1 H1 → Sr X.K ι1 H1 AH → Walks X.K ⟨fun _ => True, kvs.map fun p => .str p.1⟩ ι1 H1 v → R v H1 := q
  have wk : ∀ ι1 H1, Walks X.K ⟨fun _ => True, kvs.map fun p => .str p.1⟩ ι1 H1 (ItkK kvs) := fun ι1 H1 => by
    refine ⟨fun ι2 AH2 H2 i u l2 s2 _ hx => ?_, fun ι2 AH2 H2 l2 s2 _ => ?_⟩
    · rw [List.getElem?_map] at hx
      obtain ⟨⟨k, v⟩, hkv, rfl⟩ := Option.map_eq_some_iff.mp hx
      refine ⟨(List.getElem?_eq_some_iff.mp hkv).1, fun y H' ⟨e1, k2, v2, e2, e3⟩ => ?_⟩
      subst e1
      rw [hkv] at e2
      cases e2
      exact ⟨Le.refl, s2, e3⟩
    · show kvs.length ≤ (kvs.map fun p => W.str p.1).length
      rw [List.length_map]; exact Nat.le_refl _
  have run := (pe_glob (pos := p) hg hm (show RelV (.ref d) (.ref d) from rfl) hd).run pins s σ H (fun v H1 => v = .ref d ∧ R (ItkK kvs) H1) I ⟨rfl, q ι _ H Le.refl sr (wk ι H)⟩
  refine wpAny_mono run (fun v s1 hv => ?_) fun _ _ z => z
  obtain ⟨y, H1, I1, ry, ey, hR⟩ := hv
  subst ey
  obtain rfl : v = Value.ref d := ry
  refine iter_keys D.low (I1.kIn d _ D.at_) ⟨rfl, rfl, rfl⟩ rfl (pi_one (tk := s1.toks) I1 _ (turn_kd _ D hz hk) ⟨_, Heap.get?_push_size _ rfl, rfl, ?_⟩ hR)
  rw [hz]; rfl
/-- TABLE[k] -/
def kdM (d : Addr) (kvs : List (Str × Int)) (y z : W) : M W := fun h => match asS z with
  | some k => (match kvs.lookup k with
    | some i => (match y with
      | .gl a => if a = d then some (.ok (.int i), h) else none
      | _ => none)
    | none => none)
  | none => none
theorem lookup_mem {k : Str} {i : Int} : ∀ {l : List (Str × Int)}, l.lookup k = some i → (k, i) ∈ l
  | (a, b) :: l, h => by
    rw [List.lookup_cons] at h
    cases c : k == a with
    | true =>
      rw [c] at h
      cases h
      rw [eq_of_beq c]; simp
    | false => rw [c] at h; exact List.mem_cons_of_mem _ (lookup_mem h)
theorem ix_kd (T : KTab X.K X.w d kvs) : IxM X (kdM d kvs) := by
  obtain ⟨es, n, D, hz, hk⟩ := T.ex
  refine ⟨fun x y H Q => ∃ (z : Str) (u0 : Value) (v0 : V), x = .ref d ∧ y = .str z ∧ PySem.W.nsIn X.K d z = some (some u0) ∧ RelV v0 u0 ∧ Q v0 H, ?_, ?_⟩
  · intro value slice pins s σ H x y v u Q I rx ry h hs
    have g := op_item_kd D pins s σ H x y v u Q I rx ry h
    obtain ⟨z, u0, v0, ex, ey, _⟩ := h
    subst ex
    obtain rfl : v = Value.ref d := rx
    exact tail_any (kd_type D I) F.slot_dict_getitem.lookup g hs
  · intro Xx ι AH H w1 w2 v1 v2 Q s r1 r2 h
    unfold kdM at h
    cases e1 : asS w2 with
    | none => rw [e1] at h; exact h.elim
    | some k =>
      rw [e1] at h
      cases asS_eq e1
      cases e2 : kvs.lookup k with
      | none => simp only [e2] at h; exact h.elim
      | some i =>
        simp only [e2] at h
        cases w1 with
        | gl a =>
          have h : Out X.K (RW X.K) Xx ι H (if a = d then some (.ok (.int i), AH) else none) Q := h
          obtain ⟨c, h2⟩ := out_ite h
          obtain ⟨u, hu, ru⟩ := T.vals _ (lookup_mem e2)
          subst c
          exact ⟨k, u, .int i, r1, r2, hu, ru, h2 ι _ H Le.refl s rfl⟩
        | _ => exact h.elim
end
end Z
namespace Z
open PySem PySem.Spec PyProof.Rows L2
section
variable {X : Cx} {Wx : WX} {pos p tpos : Pos} {a b : Expr} {me : ME (List W)} {elts : List Expr} {kk : Nat}
def pairW : List W → List W → List W
  | x :: xs, y :: ys => .tup [x, y] :: pairW xs ys
  | _, _ => []
theorem pairW_at : ∀ {xs ys : List W} {i : Nat} {w : W}, (pairW xs ys)[i]? = some w → ∃ x y, xs[i]? = some x ∧ ys[i]? = some y ∧ w = .tup [x, y]
  | x :: xs, y :: ys, 0, w, h => by cases h; exact ⟨x, y, rfl, rfl, rfl⟩
  | x :: xs, y :: ys, i + 1, w, h => pairW_at (xs := xs) (ys := ys) (i := i) h
  | [], ys, i, w, h => by simp [pairW] at h
  | x :: xs, [], i, w, h => by simp [pairW] at h
theorem pairW_len : ∀ (xs ys : List W), (pairW xs ys).length = min xs.length ys.length
  | x :: xs, y :: ys => by simp only [pairW, List.length_cons, pairW_len xs ys]; omega
  | [], ys => by simp [pairW]
  | x :: xs, [] => by simp [pairW]
def zipM (ws : List W) : M Src := fun h => match ws with
  | [x, y] => (match seqL h x, seqL h y with
    | some xs, some ys => some (.ok ⟨fun h' => seqL h' x = some xs ∧ seqL h' y = some ys, pairW xs ys⟩, h)
    | _, _ => none)
  | _ => none
def mZip (me : ME (List W)) : ME Src := bE me fun ws => fun _ => zipM ws
theorem i_zip (hg : Gl X "zip") (hm : X.mg "zip" = none) (ha : PAm X Wx [a, b] me) (hs : starEach [a, b] X.env = (false, eval a X.env) :: starEach [b] X.env := by rfl) (hpl : (backTo pos (starEach [b] X.env)).any (·.1) = false := by rfl) :
    PIm X Wx (.Tuple elts kk tpos) (.Call (.Name "zip" p) [a, b] [] pos) (mZip me) := ⟨PI_imp (pi_zip hg hm ha.pa hs hpl) fun σ H R q => tG_bnd q fun ι1 ws AH1 vs H1 e re s1 r1 q => by
    match ws, r1, q with
    | [], _, q => exact q.elim
    | [_], _, q => exact q.elim
    | _ :: _ :: _ :: _, _, q => exact q.elim
    | [x, y], r1, q =>
      obtain ⟨v1, v2, rfl, rv1, rv2⟩ := rws_two r1
      have q : Out X.K (RI X.K) (wx Wx σ) ι1 H1 (match seqL AH1 x, seqL AH1 y with
        | some xs, some ys => some (.ok ⟨fun h' => seqL h' x = some xs ∧ seqL h' y = some ys, pairW xs ys⟩, AH1)
        | _, _ => none) R := q
      cases e1 : seqL AH1 x with
      | none => rw [e1] at q; exact q.elim
      | some xs =>
        cases e2 : seqL AH1 y with
        | none => rw [e1, e2] at q; exact q.elim
        | some ys =>
          rw [e1, e2] at q
          obtain ⟨p1, us, rfl, h1, _⟩ := seqL_ok s1 rv1 e1
          obtain ⟨p2, vs, rfl, h2, _⟩ := seqL_ok s1 rv2 e2
          refine ⟨p1, p2, us, vs, rfl, h1, h2, q ι1 _ H1 Le.refl s1 ⟨fun ι2 AH2 H2 i w l2 s2 ok hw => ?_, fun ι2 AH2 H2 l2 s2 ok => ?_⟩⟩
          · obtain ⟨x1, y1, hx, hy, rfl⟩ := pairW_at hw
            obtain ⟨q1, us1, ep1, g1, t1⟩ := seqL_ok s2 (RW.mono l2 _ _ rv1) ok.1
            obtain ⟨q2, vs1, ep2, g2, t2⟩ := seqL_ok s2 (RW.mono l2 _ _ rv2) ok.2
            cases ep1; cases ep2
            obtain ⟨u, hu, ru⟩ := t1.get hx
            obtain ⟨v, hv, rv⟩ := t2.get hy
            refine ⟨⟨us1, vs1, u, v, g1, g2, hu, hv⟩, fun z H' ⟨T, x2, y2, e1, free, e3, f1, f2⟩ => ?_⟩
            have e4 := f1 us1 g1
            have e5 := f2 vs1 g2
            rw [hu] at e4; cases e4
            rw [hv] at e5; cases e5
            subst e1; subst e3
            have le : Le X.K ι2 H2 ι2 (upd H2 T (.tup [u, v])) := Le.free free
            exact ⟨le, s2.untr free, T, [u, v], rfl, .inl (.inl upd_same), RWs.mk (RW.mono le _ _ ru) (RWs.mk (RW.mono le _ _ rv) RWs.nl)⟩
          · obtain ⟨q1, us1, ep1, g1, t1⟩ := seqL_ok s2 (RW.mono l2 _ _ rv1) ok.1
            obtain ⟨q2, vs1, ep2, g2, t2⟩ := seqL_ok s2 (RW.mono l2 _ _ rv2) ok.2
            cases ep1; cases ep2
            refine ⟨us1, vs1, g1, g2, ?_⟩
            have := pairW_len xs ys
            show us1.length ≤ (pairW xs ys).length ∨ vs1.length ≤ (pairW xs ys).length
            rw [this, ← t1.length, ← t2.length]
            omega⟩
end
end Z
namespace Z
open PySem PySem.Spec PyProof.Rows L2
theorem keys_at {P : Params} : ∀ {l : List DictEntry} {ks : List Str}, l.map He.keyOf = He.keysIn P ks → l.length = ks.length ∧ ∀ (i : Nat) (k : Str), ks[i]? = some k → ∃ en t, l[i]? = some en ∧ en.key = .str k t
  | [], [], _ => ⟨rfl, fun i k h => by simp at h⟩
  | [], _ :: _, h => by cases h
  | _ :: _, [], h => by cases h
  | e :: l, k :: ks, h => by
    have h1 : He.keyOf e :: l.map He.keyOf = some (k, PyData.keyHash P k) :: He.keysIn P ks := h
    obtain ⟨h2, h3⟩ := List.cons.inj h1
    obtain ⟨il, ih⟩ := keys_at h3
    refine ⟨by rw [List.length_cons, List.length_cons, il], fun i k' hk => ?_⟩
    cases i with
    | zero =>
      cases hk
      unfold He.keyOf at h2
      split at h2
      · rename_i x t q
        have h4 := (Prod.mk.inj (Option.some.inj h2)).1
        exact ⟨e, t, rfl, by rw [q, h4]⟩
      · cases h2
    | succ i => exact ih i k' hk
/-- a table by the head's facts -/
theorem ktab_of {K : PySem.W.Frag} {w : World} {a : Addr} {kvs : List (Str × Int)} (h : He.dicW K a = some (He.keysIn w.params (kvs.map (·.1)))) (v : He.valsB K a (kvs.map fun p => (p.1, .int p.2)) = true) : KTab K w a kvs := by
  obtain ⟨es, n, D⟩ := He.dicW_ok h
  have e : es.toList.map He.keyOf = He.keysIn w.params (kvs.map (·.1)) := by
    unfold He.dicW at h
    rw [D.at_] at h
    simp only at h
    split at h
    · exact Option.some.inj h
    · cases h
  obtain ⟨hl, hk⟩ := keys_at e
  refine ⟨⟨es, n, D, by simpa using hl, fun i k x hx => ?_⟩, fun p hp => ?_⟩
  · obtain ⟨en, t, h1, h2⟩ := hk i k (by rw [List.getElem?_map, hx]; rfl)
    exact ⟨en, t, by rw [← Array.getElem?_toList]; exact h1, h2⟩
  · exact He.valsB_ok v (q := (p.1, .int p.2)) (List.mem_map.mpr ⟨p, hp, rfl⟩)
/-- the i-th table's keys, by the head -/
theorem tab_at {fa : List He.Fa} {fn : List He.DefD} {ts : List He.Tab} {w : World} {K : PySem.W.Frag} (c : He.SaysT fa fn ts w K) (i : Nat) {t : He.Tab} (h : ts[i]? = some t := by rfl) : He.dicW K (t.1 K) = some (He.keysIn w.params t.2) := by
  have c2 : ts.map (fun t => He.dicW K (t.1 K)) = ts.map fun t => some (He.keysIn w.params t.2) := congrArg (fun z : He.AlT => z.2) c
  have := congrArg (·[i]?) c2
  simp only [List.getElem?_map, h, Option.map_some] at this
  exact Option.some.inj this
end Z
/-! isinstance by a table of own classes; own methods' places. -/
namespace Z
open PySem PySem.Spec PyProof.Rows L2
abbrev ITab := List (Value × Value × Bool)
open Classical in
/-- what the table says, else built-in types -/
noncomputable def isiT (tab : ITab) (t u : Value) : Option Bool := if (t, u, true) ∈ tab then some true else if (t, u, false) ∈ tab then some false else isiB t u
/-- the table says one thing of two -/
def Cons (tab : ITab) : Prop := ∀ t u, (t, u, true) ∈ tab → (t, u, false) ∉ tab
section
variable {tab : ITab} {t u : Value} {K : PySem.W.Frag}
theorem isiT_t (h : (t, u, true) ∈ tab) : isiT tab t u = some true := if_pos h
theorem isiT_f (c : Cons tab) (h : (t, u, false) ∈ tab) : isiT tab t u = some false := by
  unfold isiT
  rw [if_neg (fun z => c t u z h), if_pos h]
theorem isiT_b (h : ∀ b, (t, u, b) ∉ tab) : isiT tab t u = isiB t u := by
  unfold isiT
  rw [if_neg (h true), if_neg (h false)]
theorem isiT_ok (hk : ∀ p ∈ tab, PySem.W.kitOne K p.1 p.2.1 = some p.2.2) (hi : ∀ C u b, (Value.ref C, u, b) ∈ tab → InsF K C) : IsiOk K (isiT tab) := by
  refine ⟨fun t u b h => ?_, fun C u b h => ?_⟩
  · unfold isiT at h
    by_cases c : (t, u, true) ∈ tab
    · rw [if_pos c] at h
      cases h
      exact hk _ c
    · rw [if_neg c] at h
      by_cases c2 : (t, u, false) ∈ tab
      · rw [if_pos c2] at h
        cases h
        exact hk _ c2
      · rw [if_neg c2] at h
        exact isiB_ok.kit t u b h
  · unfold isiT at h
    by_cases c : (Value.ref C, u, true) ∈ tab
    · exact hi C u _ c
    · rw [if_neg c] at h
      by_cases c2 : (Value.ref C, u, false) ∈ tab
      · exact hi C u _ c2
      · rw [if_neg c2] at h
        exact isiB_ok.ins C u b h
theorem cons_of (hk : ∀ p ∈ tab, PySem.W.kitOne K p.1 p.2.1 = some p.2.2) : Cons tab := fun t u a b => by
  have h1 := hk _ a
  have h2 := hk _ b
  rw [h1] at h2
  cases h2
end
/-- what a class needs for isinstance, as a Bool of the head -/
def insB (K : PySem.W.Frag) (C : Addr) : Bool := decide (PySem.W.findIn K (.ref C) "__class__" = some (some (.builtin "object.__class__"))) && (decide (PySem.W.specialIn K (.builtin "object.__class__") "__get__" = some (some (.builtin "getset_descriptor.__get__"))) &&
  (decide (PySem.W.takesIn K (.builtin "object.__class__") = some true) && decide (PySem.W.mroIn K C (.type "object") = some true)))
theorem insB_ok {K : PySem.W.Frag} {C : Addr} (c : Cls K C) (h : insB K C = true) : InsF K C := by
  unfold insB at h
  simp only [Bool.and_eq_true, decide_eq_true_eq] at h
  exact ⟨c, h.1, h.2.1, h.2.2.1, h.2.2.2⟩
def kitB1 (K : PySem.W.Frag) (p : Value × Value × Bool) : Bool := decide (PySem.W.kitOne K p.1 p.2.1 = some p.2.2)
theorem kitB1_ok {K : PySem.W.Frag} {tab : ITab} (h : tab.all (kitB1 K) = true) : ∀ p ∈ tab, PySem.W.kitOne K p.1 p.2.1 = some p.2.2 := fun p hp => of_decide_eq_true (List.all_eq_true.mp h p hp)
section
variable {X : Cx} {Wx : WX} {pos : Pos} {x : Str} {a : Addr}
/-- a class of the module, a table: by its place -/
theorem m_gref (hg : Gl X x) (hm : X.mg x = some (.ref a)) (hd : (x == ("__debug__" : Str)) = false := by decide) : PEm X Wx (.Name x pos) (mC (.gl a)) := m_glob hg hm (v := .ref a) rfl (fun _ _ => rfl) hd
/-- int of a truth or a whole number -/
def intM : List W → M W := one fun w h => match w with
  | .bl b => some (.ok (.int (if b then 1 else 0)), h)
  | .int i => some (.ok (.int i), h)
  | _ => none
theorem c_int : CallM X (.type "int") intM := ⟨_, call_int1, one_ok fun Xx ι AH H w v Q s r o => by
  cases w with
  | bl b => exact .inr ⟨b, by rw [rw_bl r], o ι _ H Le.refl s rfl⟩
  | int i => exact .inl ⟨i, by rw [rw_int r], o ι _ H Le.refl s rfl⟩
  | _ => exact o.elim⟩
end
end Z
namespace Z
open PySem L2
def clsB (K : PySem.W.Frag) (C : Addr) : Bool := PySem.W.plainGet K C Str.empty && (PySem.W.hasDictIn K C && (PySem.W.plainOver K C && decide (PySem.W.findIn K (.ref C) "__setattr__" = some (some (.builtin "object.__setattr__")))))
theorem clsB_ok {K : PySem.W.Frag} {C : Addr} (h : clsB K C = true) : Cls K C := by
  unfold clsB at h
  simp only [Bool.and_eq_true, decide_eq_true_eq] at h
  exact ⟨h.1, h.2.1, h.2.2.1, h.2.2.2⟩
def insAll (K : PySem.W.Frag) (Ds : List Addr) (tab : ITab) : Bool := (Ds.all fun C => clsB K C && insB K C) && tab.all fun p => match p.1 with
  | .ref C => Ds.any fun D => decide (D = C)
  | _ => true
theorem insAll_ok {K : PySem.W.Frag} {Ds : List Addr} {tab : ITab} (h : insAll K Ds tab = true) (C : Addr) (u : Value) (b : Bool) (m : (Value.ref C, u, b) ∈ tab) : InsF K C := by
  unfold insAll at h
  rw [Bool.and_eq_true] at h
  have h2 := List.all_eq_true.mp h.2 _ m
  obtain ⟨D, hD, e⟩ := List.any_eq_true.mp (show (Ds.any fun D => decide (D = C)) = true from h2)
  obtain rfl := of_decide_eq_true e
  have h1 := List.all_eq_true.mp h.1 D hD
  rw [Bool.and_eq_true] at h1
  exact insB_ok (clsB_ok h1.1) h1.2
end Z
/-! An own __eq__: ==, !=. -/
namespace ZQ
open PySem PySem.Spec PyProof.Rows
section
variable {prog : Program} {w : World} {A : Around} {E : Value → Shared → Prop} {s : Shared} {K : PySem.W.Frag} {x C L f : Addr} {h₀ : Heap} {m : Str → Option Value} {ox : Obj} {od : Option Obj} {b tb : Value}
/-- the built-in slot of object at an instance's class -/
theorem bound_objNe {M : Model} {args : List Value} {Q : Option Value → Shared → Prop} (KX : K.In s.heap) (J : PySem.W.InstAt s.heap x ox C od) (hn : PySem.W.findIn K (.ref C) "__ne__" = some (some (.builtin "object.__ne__")))
    (go : wpAny M A (call (.builtin "object.__ne__") (.ref x :: args)) (fun v => Q (some v)) E s) : wpAny M A (callSpecialIfBound? (.ref x) "__ne__" args) Q E s := by
  unfold callSpecialIfBound? bindSpecialIfBound?
  refine wpAny_holding (wpAny_bind (wpAny_bind (wpAny_bind (J.type.here ((PySem.W.looks_findIn KX hn).here (wpAny_bind (wpAny_askSetting (wpAny_ite ?_))))))))
  have last : wpAny M A (call (.builtin "object.__ne__") ([Value.ref x] ++ args) >>= fun v => pure (some v)) Q E s := wpAny_bind (wpAny_mono go (fun _ _ z => wpAny_pure z) fun _ _ z => z)
  split
  · refine wpAny_bind (wpAny_of_eq (F.cmp_object.ne.bind _) (wpAny_pure ?_))
    exact last
  · refine wpAny_tryCatch (wpAny_bind (wpAny_of_eq (F.cmp_object.ne.bind _) (wpAny_pure ?_)))
    exact last
theorem objNe_own {Q : Fin → Shared → Prop} (KX : K.In s.heap) (J : PySem.W.InstAt s.heap x ox C od) (he : PySem.W.findIn K (.ref C) "__eq__" = some (some (.ref f))) (hf : PySem.W.isFn K (.ref f) = true) (hu : A.units < cLine)
    (go : wpAny (model prog w) A (call (.ref f) [.ref x, b]) (fun v s' => ∃ r, v = .bool r ∧ Q (.done (.ret (.bool (!r)))) s') E s) : wpAny (model prog w) A (Builtin.«object.__ne__» ⟨[.ref x, b], []⟩) Q E s := by
  unfold Builtin.«object.__ne__»
  repeat (first
    | with_reducible refine wpAny_cRoomFor hu ?_
    | (refine wpAny_bind (m := callSpecialIfBound? (.ref x) (Str.ofString "__eq__") [b]) (PySem.W.ifBound_K KX J he hf (wpAny_mono go (fun v s' hv => by
        obtain ⟨r, ev, q⟩ := hv
        subst ev
        repeat (first | exact q | exact wpAny_pure q | exact wpAny_truthy_bool q | (refine wpAny_bind (m := truthy (.bool _)) (wpAny_truthy_bool ?_)) | wp_step)) fun _ _ z => z)))
    | wp_step)
theorem ne_K {Q : Value → Shared → Prop} (hu : A.units + 1 < cLine) (KX : K.In s.heap) (J : PySem.W.InstAt s.heap x ox C od) (hb : PySem.W.Looks (model prog w) s.heap (typeOf b) tb) (hn : PySem.W.notFirst K C tb = true)
    (he : PySem.W.findIn K (.ref C) "__eq__" = some (some (.ref f))) (hf : PySem.W.isFn K (.ref f) = true) (hne : PySem.W.findIn K (.ref C) "__ne__" = some (some (.builtin "object.__ne__"))) (hm : PySem.W.mroIn K C (.type "object") = some true)
    (go : wpAny (model prog w) A.in1 (call (.ref f) [.ref x, b]) (fun v s' => ∃ r, v = .bool r ∧ Q (.bool (!r)) s') E s) : wpAny (model prog w) A (richCompare .NotEq (.ref x) b) Q E s := by
  have one : wpAny (model prog w) A (tryCompare (.ref x) "__ne__" b) (fun r s' => ∃ v, r = some v ∧ Q v s') E s := by
    unfold tryCompare
    refine wpAny_bind (bound_objNe KX J hne (wpAny_call (codeAny_call_builtin F.cmp_object.ne.plain F.cmpEntry_ne (PySem.W.check_slot F.cmpKind_ne F.cmpSplit_ne (J.type.andThen (PySem.W.looks_mroIn KX hm)) (F.cmpArgs_ne _ _) (objNe_own (A := A.in1) KX J he hf hu (wpAny_mono go (fun v s' hv => ?_) fun _ _ z => z))))))
    obtain ⟨r, ev, q⟩ := hv
    refine ⟨r, ev, ?_⟩
    first | exact wpAny_pure ⟨_, rfl, q⟩ | exact wpAny_pure (wpAny_pure ⟨_, rfl, q⟩)
  unfold richCompare
  simp only [oneThing_ref]
  refine wpAny_holding (wpAny_bind (wpAny_cRoomFor (Nat.lt_of_succ_lt hu) (wpAny_bind (J.type.here (wpAny_bind (hb.here ?_))))))
  have rest : wpAny (model prog w) A (tryCompare (.ref x) (cmpInfo .NotEq).2.1 b) (fun r s' => ∃ v, r = some v ∧ Q v s') E s := one
  split
  · rename_i q
    have e : PySem.W.subIn K tb (.ref C) = some false := by
      rcases Bool.or_eq_true_iff.mp hn with e | e
      · rw [beq_iff_eq.mp e] at q; simp at q
      · exact beq_iff_eq.mp e
    refine wpAny_bind ((PySem.W.looks_subIn KX e).here ?_)
    simp only [Bool.false_eq_true, if_false]
    refine wpAny_bind (wpAny_mono rest (fun r s' z => ?_) fun _ _ z => z)
    obtain ⟨v, ev, hq⟩ := z
    subst ev
    exact wpAny_pure hq
  · refine wpAny_bind (wpAny_pure ?_)
    simp only [Bool.false_eq_true, if_false]
    refine wpAny_bind (wpAny_mono rest (fun r s' z => ?_) fun _ _ z => z)
    obtain ⟨v, ev, hq⟩ := z
    subst ev
    exact wpAny_pure hq
end
end ZQ
namespace Z
open PySem PySem.Spec PyProof.Rows L2
section
variable {X : Cx} {pins : List (Addr × Obj)} {σ : L2.St} {H : Hp} {s : Shared}
theorem lookT {M : Model} {h : Heap} {u : Value} {T : String} (g : ∀ s' : Shared, (∀ b o, h.get? b = some o → s'.heap.get? b = some o) → s'.TypeIs u T) : PySem.W.Looks M h (typeOf u) (.type T) := fun A Q E s' k q => wpAny_typeOf (g s' k) q
/-- the type of a value that is told by TyX -/
theorem look_ty {x : V} {u t : Value} (I : L2.Inv X pins σ H s) (rx : RelV x u) (ty : TyX X.K H x t) : PySem.W.Looks (model X.prog X.w) s.heap (typeOf u) t := by
  have tracked : ∀ {a : Addr} {o : HO}, H a = some o → ObjOk X.prog X.w H s.heap a o := fun e => I.hok _ _ e
  have atRef : ∀ {a : Addr} {T : String}, RelV (.ref a) u → (∃ o, s.heap.get? a = some o ∧ o.cls = .type T) → PySem.W.Looks (model X.prog X.w) s.heap (typeOf u) (.type T) := fun r ⟨o, h, c⟩ => by
    have r : u = Value.ref _ := r
    subst r
    exact lookT fun _ k => ⟨o, k _ _ h, c⟩
  rcases ty with ty | _ | ty | ⟨ty, c⟩ | ⟨ty, c⟩ | ⟨ty, c⟩ | ty | ty
  · rcases ty with _ | _ | _ | _ | _ | ty | ty | ty | ty | ty | ⟨ty, _, _, _, _, _⟩
    · rw [show u = Value.none from rx]; exact lookT fun _ _ => rfl
    · rw [show u = Value.bool _ from rx]; exact lookT fun _ _ => rfl
    · obtain ⟨_, e⟩ : ∃ t, u = Value.int _ t := rx
      rw [e]; exact lookT fun _ _ => rfl
    · obtain ⟨_, e⟩ : ∃ t, u = Value.str _ t := rx
      rw [e]; exact lookT fun _ _ => rfl
    · obtain ⟨_, e⟩ : ∃ t, u = Value.float _ t := rx
      rw [e]; exact lookT fun _ _ => rfl
    · obtain ⟨_, _, _, _, g⟩ := tracked ty
      exact atRef rx ⟨_, g, rfl⟩
    · obtain ⟨_, _, _, _, _, g⟩ := tracked ty
      exact atRef rx ⟨_, g, rfl⟩
    · obtain ⟨_, _, _, _, g, c, _⟩ := tracked ty
      exact atRef rx ⟨_, g, c⟩
    · obtain ⟨_, _, _, _, _, _, _, g, c, _⟩ := tracked ty
      exact atRef rx ⟨_, g, c.1⟩
    · obtain ⟨_, _, _, _, _, _, _, g, c, _⟩ := tracked ty
      exact atRef rx ⟨_, g, c.1⟩
    · obtain ⟨_, O, _⟩ := ins_get I.hok ty
      obtain ⟨_, J, _⟩ := O.look
      rw [show u = Value.ref _ from rx]
      exact J.type
  · obtain ⟨_, e⟩ : ∃ t, u = Value.bytes _ t := rx
    rw [e]; exact lookT fun _ _ => rfl
  · obtain ⟨_, _, _, _, g, c, _⟩ := tracked ty
    exact atRef rx ⟨_, g, c.1⟩
  · exact atRef rx ⟨_, I.kIn _ _ ty, c⟩
  · exact atRef rx ⟨_, I.kIn _ _ ty, c⟩
  · exact atRef rx ⟨_, I.kIn _ _ ty, c⟩
  · obtain ⟨_, _, _, _, _, g, c, _⟩ := tracked ty
    exact atRef rx ⟨_, g, c⟩
  · obtain ⟨_, _, _, _, _, _, _, _, g, c, _⟩ := tracked ty
    exact atRef rx ⟨_, g, c.1⟩
end
/-- what a class with an own __eq__ f bears -/
structure EqC (K : PySem.W.Frag) (C f : Addr) (tl : List Value) : Prop where
  eq_ : PySem.W.findIn K (.ref C) "__eq__" = some (some (.ref f))
  fn : PySem.W.isFn K (.ref f) = true
  ne_ : PySem.W.findIn K (.ref C) "__ne__" = some (some (.builtin "object.__ne__"))
  obj : PySem.W.mroIn K C (.type "object") = some true
  nf : ∀ t ∈ tl, PySem.W.notFirst K C t = true
  ins : ∀ D, Value.ref D ∈ tl → InsF K D
  nn : PySem.W.subIn K (.ref C) (.type "NoneType") = some false
  nt : Value.type "NoneType" ∈ tl
  me : Value.ref C ∈ tl
open Classical in
/-- an own ==: a truth, told by the def F of two values -/
noncomputable def ownM (k0 : Bool → Bool) (C : Addr) (tl : List Value) (F : List W → M W) : W → W → M W := fun x y h => match insAt [C] h x, tyW h y with
  | some _, some t => if t ∈ tl then (match F [x, y] h with
    | some (.ok (.bl b), h') => some (.ok (.bl (k0 b)), h')
    | _ => none) else none
  | _, _ => none
section
variable {X : Cx} {k : Nat} {f C : Addr} {fd : FuncData} {p1 p2 : Str} {F : List W → M W} {tl : List Value}
/-- what the def's call needs -/
def rOwn (X : Cx) (C f : Addr) (F : List W → M W) (tl : List Value) (k0 : Bool → Bool) : R2 := fun x y H Q => ∃ a dx vs t, x = .ref a ∧ H a = some (.ins C dx vs) ∧ TyX X.K H y t ∧ t ∈ tl ∧ spM X.K 2 F [x, y] H (fun v H' => ∃ b, v = .bl b ∧ Q (.bl (k0 b)) H') fun _ _ _ => False
theorem keeps_own {k0 : Bool → Bool} (eq : EqC X.K C f tl) : Keeps2 X (rOwn X C f F tl k0) (ownM k0 C tl F) := by
  intro Xx ι AH H w1 w2 v1 v2 Q s r1 r2 h
  unfold ownM at h
  cases e1 : insAt [C] AH w1 with
  | none => simp only [e1] at h; exact h.elim
  | some nc =>
    obtain ⟨n, D, fs⟩ := nc
    cases e2 : tyW AH w2 with
    | none => simp only [e1, e2] at h; exact h.elim
    | some t =>
      simp only [e1, e2] at h
      by_cases c : t ∈ tl
      · rw [if_pos c] at h
        obtain ⟨m, a, dx, vs, rfl, ha, hi, rp⟩ := insAt_ok s r1 e1
        obtain rfl := List.mem_singleton.mp m
        refine ⟨a, dx, vs, t, rfl, hi, ty_ok s r2 e2 fun D e => eq.ins D (e ▸ c), c, rfl, ι, [w1, w2], AH, RWs.mk r1 (RWs.mk r2 RWs.nl), s, ?_⟩
        cases hF : F [w1, w2] AH with
        | none => simp only [hF] at h; exact h.elim
        | some z =>
          obtain ⟨rz, h'⟩ := z
          simp only [hF] at h
          cases rz with
          | error x => exact h.elim
          | ok u =>
            cases u with
            | bl b =>
              intro ι' v H' l s' rv
              exact ⟨b, rw_bl rv, h ι' (.bl (k0 b)) H' l s' rfl⟩
            | _ => exact h.elim
      · rw [if_neg c] at h; exact h.elim
theorem own_go (G : FM X.prog X.w X.K X.mg X.base k f fd [p1, p2] F) (hb : Binds X.K fd [p1, p2] []) {A : Around} (hr : Room k A) (hG : A.guards = some []) (hfr : A.frames = X.A.frames) {pins : List (Addr × Obj)} {σ : L2.St} {H : Hp} {s : Shared} {x y : V} {v u : Value} {Q : VK}
    (I : L2.Inv X pins σ H s) (rx : RelV x v) (ry : RelV y u) (sp : spM X.K 2 F [x, y] H Q fun _ _ _ => False) : wpAny (model X.prog X.w) A (call (.ref f) [v, u]) (EP X pins σ Q) X.xe s := by
  have e := I.env0
  have e0 : Env0 X.prog X.w X.K X.mg X.base A X.stack s H := ⟨by rw [hfr]; exact e.frames, e.mod, e.bs, e.bsz, e.funs, e.frf, e.hok, e.bare⟩
  have r2 : Vals [x, y] [v, u] := .cons rx (.cons ry .nil)
  have b := hb s [v, u] I.kIn rfl
  rw [List.append_nil] at b
  refine wpAny_call (codeAny_mono (G.go A X.stack s H ⟨[v, u], []⟩ [v, u] [x, y] Q (fun _ _ _ => False) hr hG e0 b r2 sp) fun r s' q => ?_)
  cases r with
  | error e => exact L2N.passAt (takesF (X := X)) σ pins H s e s' I q
  | ok fl =>
    cases fl with
    | ret u => exact I.after q
    | _ => exact q.elim
theorem op_own (G : FM X.prog X.w X.K X.mg X.base k f fd [p1, p2] F) (hb : Binds X.K fd [p1, p2] []) (hr : Room k X.A) (hG : X.A.guards = some []) (eq : EqC X.K C f tl) : OpM X (compareOp .Eq) (ownM id C tl F) :=
  ⟨rOwn X C f F tl id, fun pins s σ H x y v u Q I rx ry ⟨a, dx, vs, t, ex, hi, ty, ht, sp⟩ => by
    subst ex
    obtain rfl : v = Value.ref a := rx
    obtain ⟨mA, O, _⟩ := ins_get I.hok hi
    obtain ⟨od, J, _⟩ := O.look
    obtain ⟨m, hF⟩ := I.fr
    show wpAny (model X.prog X.w) X.A (richCompare .Eq (.ref a) u) (EP X pins σ Q) X.xe s
    refine PySem.W.cmp_K (op := .Eq) hr.units0 hF I.ok.mod.kin J (look_ty I ry ty) (eq.nf t ht) eq.eq_ eq.fn (wpAny_mono (own_go G hb hr hG rfl I (show RelV (.ref a) (Value.ref a) from rfl) ry sp) (fun z s' hz => ?_) fun _ _ z => z)
    obtain ⟨w, H', I', rw', b, ew, q⟩ := hz
    subst ew
    obtain rfl : z = Value.bool b := rw'
    exact ⟨.bl b, H', I', rfl, q⟩, keeps_own eq⟩
theorem op_ownN (G : FM X.prog X.w X.K X.mg X.base k f fd [p1, p2] F) (hb : Binds X.K fd [p1, p2] []) (hr : Room (k + 1) X.A) (hG : X.A.guards = some []) (eq : EqC X.K C f tl) : OpM X (compareOp .NotEq) (ownM not C tl F) :=
  ⟨rOwn X C f F tl not, fun pins s σ H x y v u Q I rx ry ⟨a, dx, vs, t, ex, hi, ty, ht, sp⟩ => by
    subst ex
    obtain rfl : v = Value.ref a := rx
    obtain ⟨mA, O, _⟩ := ins_get I.hok hi
    obtain ⟨od, J, _⟩ := O.look
    have hu : X.A.units + 1 < cLine := by have := hr.un; omega
    show wpAny (model X.prog X.w) X.A (richCompare .NotEq (.ref a) u) (EP X pins σ Q) X.xe s
    refine ZQ.ne_K hu I.kIn J (look_ty I ry ty) (eq.nf t ht) eq.eq_ eq.fn eq.ne_ eq.obj (wpAny_mono (own_go G hb hr.in1 hG rfl I (show RelV (.ref a) (Value.ref a) from rfl) ry sp) (fun z s' hz => ?_) fun _ _ z => z)
    obtain ⟨w, H', I', rw', b, ew, q⟩ := hz
    subst ew
    obtain rfl : z = Value.bool b := rw'
    exact ⟨b, rfl, .bl (!b), H', I', rfl, q⟩, keeps_own eq⟩
end
end Z
/-! An own __repr__, an own __len__; texts with braces. -/
namespace Z
open PySem PySem.Spec PyProof.Rows L2
section
variable {X : Cx} {k : Nat} {f C : Addr} {fd : FuncData} {p1 : Str} {F : List W → M W}
/-- of an instance of C: the text that F tells -/
def reprOwnM (C : Addr) (F : List W → M W) : List W → M W := one fun x h => match insAt [C] h x with
  | some _ => (match F [x] h with
    | some (.ok (.str z), h') => some (.ok (.str z), h')
    | _ => none)
  | none => none
def lenOwnM (C : Addr) (F : List W → M W) : List W → M W := one fun x h => match insAt [C] h x with
  | some _ => (match F [x] h with
    | some (.ok (.int i), h') => if 0 ≤ i ∧ i < 9223372036854775808 then some (.ok (.int i), h') else none
    | _ => none)
  | none => none
theorem own1_go (G : FM X.prog X.w X.K X.mg X.base k f fd [p1] F) (hb : Binds X.K fd [p1] []) {A : Around} (hr : Room k A) (hG : A.guards = some []) (hfr : A.frames = X.A.frames) {pins : List (Addr × Obj)} {σ : L2.St} {H : Hp} {s : Shared} {x : V} {v : Value} {Q : VK}
    (I : L2.Inv X pins σ H s) (rx : RelV x v) (sp : spM X.K 1 F [x] H Q fun _ _ _ => False) : wpAny (model X.prog X.w) A (call (.ref f) [v]) (EP X pins σ Q) X.xe s := by
  have e := I.env0
  have e0 : Env0 X.prog X.w X.K X.mg X.base A X.stack s H := ⟨by rw [hfr]; exact e.frames, e.mod, e.bs, e.bsz, e.funs, e.frf, e.hok, e.bare⟩
  have b := hb s [v] I.kIn rfl
  rw [List.append_nil] at b
  refine wpAny_call (codeAny_mono (G.go A X.stack s H ⟨[v], []⟩ [v] [x] Q (fun _ _ _ => False) hr hG e0 b (.cons rx .nil) sp) fun r s' q => ?_)
  cases r with
  | error e => exact L2N.passAt (takesF (X := X)) σ pins H s e s' I q
  | ok fl =>
    cases fl with
    | ret u => exact I.after q
    | _ => exact q.elim
theorem c_reprOwn (G : FM X.prog X.w X.K X.mg X.base k f fd [p1] F) (hb : Binds X.K fd [p1] []) (hr : Room (k + 1) X.A) (hG : X.A.guards = some []) (he : PySem.W.findIn X.K (.ref C) "__repr__" = some (some (.ref f))) (hf : PySem.W.isFn X.K (.ref f) = true) : CallM X (.builtin "repr") (reprOwnM C F) := by
  refine ⟨fun xs H Q => ∃ a dx vs, xs = [.ref a] ∧ H a = some (.ins C dx vs) ∧ spM X.K 1 F [.ref a] H (fun v H' => ∃ z, v = .str z ∧ Q (.str z) H') fun _ _ _ => False, fun pins s σ H xs us Q I r ⟨a, dx, vs, ex, hi, sp⟩ => ?_, one_ok fun Xx ι AH H w v Q s r o => ?_⟩
  · subst ex
    obtain ⟨u, rfl, ru⟩ := vals1 r
    obtain rfl : u = Value.ref a := ru
    obtain ⟨mA, O, _⟩ := ins_get I.hok hi
    obtain ⟨od, J, _⟩ := O.look
    obtain ⟨m, hF⟩ := I.fr
    have hu : X.A.in1.units < cLine := by have := hr.un; show X.A.units + 1 < cLine; omega
    refine PySem.W.repr_K hu hF I.ok.mod.kin J he hf (wpAny_mono (own1_go G hb hr.in1 hG rfl I (show RelV (.ref a) (Value.ref a) from rfl) sp) (fun z s' hz => ?_) fun _ _ z => z)
    obtain ⟨w, H', I', rw', y, ew, q⟩ := hz
    subst ew
    obtain ⟨t, rfl⟩ := (show ∃ t, z = Value.str y t from rw')
    exact ⟨.str y, H', I', ⟨t, rfl⟩, q⟩
  · cases e1 : insAt [C] AH w with
    | none => simp only [e1] at o; exact o.elim
    | some nc =>
      obtain ⟨n, D, fs⟩ := nc
      simp only [e1] at o
      obtain ⟨m, a, dx, vs, rfl, ha, hi, rp⟩ := insAt_ok s r e1
      obtain rfl := List.mem_singleton.mp m
      refine ⟨a, dx, vs, rfl, hi, rfl, ι, [w], AH, RWs.mk r RWs.nl, s, ?_⟩
      cases hF : F [w] AH with
      | none => simp only [hF] at o; exact o.elim
      | some z =>
        obtain ⟨rz, h'⟩ := z
        simp only [hF] at o
        cases rz with
        | error x => exact o.elim
        | ok u =>
          cases u with
          | str y => exact fun ι' v H' l s' rv => ⟨y, rw_str rv, o ι' (.str y) H' l s' rfl⟩
          | _ => exact o.elim
theorem c_lenOwn (G : FM X.prog X.w X.K X.mg X.base k f fd [p1] F) (hb : Binds X.K fd [p1] []) (hr : Room (k + 1) X.A) (hG : X.A.guards = some []) (he : PySem.W.findIn X.K (.ref C) "__len__" = some (some (.ref f))) (hf : PySem.W.isFn X.K (.ref f) = true) : CallM X (.builtin "len") (lenOwnM C F) := by
  refine ⟨fun xs H Q => ∃ a dx vs, xs = [.ref a] ∧ H a = some (.ins C dx vs) ∧ spM X.K 1 F [.ref a] H (fun v H' => ∃ i, v = .int i ∧ (0 ≤ i ∧ i < 9223372036854775808) ∧ Q (.int i) H') fun _ _ _ => False, fun pins s σ H xs us Q I r ⟨a, dx, vs, ex, hi, sp⟩ => ?_, one_ok fun Xx ι AH H w v Q s r o => ?_⟩
  · subst ex
    obtain ⟨u, rfl, ru⟩ := vals1 r
    obtain rfl : u = Value.ref a := ru
    obtain ⟨mA, O, _⟩ := ins_get I.hok hi
    obtain ⟨od, J, _⟩ := O.look
    obtain ⟨m, hF⟩ := I.fr
    refine PySem.W.len_K hF I.ok.mod.kin J he hf (wpAny_mono (own1_go G hb hr.in1 hG rfl I (show RelV (.ref a) (Value.ref a) from rfl) sp) (fun z s' hz => ?_) fun _ _ z => z)
    obtain ⟨w, H', I', rw', y, ew, c, q⟩ := hz
    subst ew
    obtain ⟨t, rfl⟩ := (show ∃ t, z = Value.int y t from rw')
    exact ⟨⟨c.1, by have := c.2; omega⟩, .int y, H', I'.tok _, ⟨_, rfl⟩, q⟩
  · cases e1 : insAt [C] AH w with
    | none => simp only [e1] at o; exact o.elim
    | some nc =>
      obtain ⟨n, D, fs⟩ := nc
      simp only [e1] at o
      obtain ⟨m, a, dx, vs, rfl, ha, hi, rp⟩ := insAt_ok s r e1
      obtain rfl := List.mem_singleton.mp m
      refine ⟨a, dx, vs, rfl, hi, rfl, ι, [w], AH, RWs.mk r RWs.nl, s, ?_⟩
      cases hF : F [w] AH with
      | none => simp only [hF] at o; exact o.elim
      | some z =>
        obtain ⟨rz, h'⟩ := z
        simp only [hF] at o
        cases rz with
        | error x => exact o.elim
        | ok u =>
          cases u with
          | int y =>
            obtain ⟨c, o⟩ := out_ite o
            exact fun ι' v H' l s' rv => ⟨y, rw_int rv, c, o ι' (.int y) H' l s' rfl⟩
          | _ => exact o.elim
end
/-! ### texts with braces -/
section
variable {X : Cx} {Wx : WX} {pos : Pos} {e e2 : Expr} {es : List Expr} {m m2 : ME W}
def fmtW (w : W) : M W := fun h => match w with
  | .str y => if y.length ≤ sizeLine then some (.ok (.str y), h) else none
  | .int i => if i.natAbs.log2 < 1920 then some (.ok (.str (toString i)), h) else none
  | _ => none
def mFmt (m : ME W) : ME W := bE m fun w => fun _ => fmtW w
theorem m_fmt (he : PEm X Wx e m) : PEm X Wx (.FormattedValue e (-1) none pos) (mFmt m) := .imp (pe_fmt he.pe) fun σ H Q h => tG_bnd h fun ι1 w AH1 v H1 e re s1 r1 q => by
  cases w with
  | str y =>
    obtain ⟨c, q⟩ := out_ite (show Out X.K (RW X.K) (wx Wx σ) ι1 H1 (if y.length ≤ sizeLine then some (.ok (.str y), AH1) else none) Q from q)
    exact .inl ⟨y, rw_str r1, c, q ι1 (.str y) H1 Le.refl s1 rfl⟩
  | int i =>
    obtain ⟨c, q⟩ := out_ite (show Out X.K (RW X.K) (wx Wx σ) ι1 H1 (if i.natAbs.log2 < 1920 then some (.ok (.str (toString i)), AH1) else none) Q from q)
    exact .inr ⟨i, rw_int r1, c, q ι1 (.str (toString i)) H1 Le.refl s1 rfl⟩
  | _ => exact q.elim
def mJs : List (ME W) → Str → ME W
  | [], acc => fun _ h => some (.ok (.str acc), h)
  | m :: ms, acc => bE m fun w => fun e h => match w with
    | .str y => if (acc ++ y).length ≤ sizeLine then mJs ms (acc ++ y) e h else none
    | _ => none
structure PJm (X : Cx) (Wx : WX) (es : List Expr) (ms : List (ME W)) : Prop where
  pj : PJ X es (ms.map fun m => tE X.K Wx m)
theorem j_nil : PJm X Wx [] [] := ⟨.nil⟩
theorem j_cons {ms : List (ME W)} (h : PEm X Wx e m) (r : PJm X Wx es ms) : PJm X Wx (e :: es) (m :: ms) := ⟨.cons h.pe r.pj⟩
theorem t_js {K : PySem.W.Frag} {σ : L2.St} : ∀ (ms : List (ME W)) (acc : Str) (ι : List Addr) (e : Ev) (AH : Hv) (H : Hp) (Q : VK), RE K ι H e σ → Sr K ι H AH → Out K (RW K) (wx Wx σ) ι H (mJs ms acc e AH) Q → tJs (ms.map fun m => tE K Wx m) acc σ H fun out H1 => Q (.str out) H1
  | [], acc, ι, e, AH, H, Q, re, s, o => o ι (.str acc) H Le.refl s rfl
  | m :: ms, acc, ι, e, AH, H, Q, re, s, o => by
    obtain o := Out.bnd (R := RW K) o
    refine ⟨ι, e, AH, re, s, o.imp fun x H1 ⟨ι1, w1, AH1, l1, s1, r1, o1⟩ => ?_⟩
    cases w1 with
    | str y =>
      obtain ⟨c, o1⟩ := out_ite (show Out K (RW K) (wx Wx σ) ι1 H1 (if (acc ++ y).length ≤ sizeLine then mJs ms (acc ++ y) e AH1 else none) Q from o1)
      exact ⟨y, rw_str r1, c, t_js ms (acc ++ y) ι1 e AH1 H1 Q (re.mono l1) s1 o1⟩
    | _ => exact o1.elim
theorem m_js {ms : List (ME W)} (h : PJm X Wx (e :: e2 :: es) ms) : PEm X Wx (.JoinedStr (e :: e2 :: es) pos) (mJs ms Str.empty) := .imp (pe_joined h.pj) fun σ H Q ⟨ι, e, AH, re, s, o⟩ => t_js ms Str.empty ι e AH H Q re s o
theorem m_js1 (h : PEm X Wx e m) : PEm X Wx (.JoinedStr [e] pos) m := .imp (pe_joined1 h.pe) fun σ H Q q => q
end
end Z
namespace Z
open PySem PySem.Spec PyProof.Rows L2
section
variable {X : Cx}
/-- of an instance of C so, else so -/
def orM (C : Addr) (g1 g2 : W → W → M W) : W → W → M W := fun x y h => match insAt [C] h x with
  | some _ => g1 x y h
  | none => g2 x y h
theorem op_orM {C : Addr} {f : Value → Value → Sem Value} {g1 g2 : W → W → M W} (h1 : OpM X f g1) (h2 : OpM X f g2) : OpM X f (orM C g1 g2) := OpM.or h1 h2 fun w1 w2 h => by
  unfold orM
  cases insAt [C] h w1 with
  | some _ => exact .inl rfl
  | none => exact .inr rfl
def orC (C : Addr) (g1 g2 : List W → M W) : List W → M W := fun ws h => match ws with
  | [x] => (match insAt [C] h x with
    | some _ => g1 [x] h
    | none => g2 [x] h)
  | ws => g2 ws h
theorem c_orC {C : Addr} {f : Value} {g1 g2 : List W → M W} (h1 : CallM X f g1) (h2 : CallM X f g2) : CallM X f (orC C g1 g2) := CallM.or h1 h2 fun ws h => by
  match ws with
  | [] => exact .inr rfl
  | [x] =>
    have u : orC C g1 g2 [x] h = (match insAt [C] h x with
      | some _ => g1 [x] h
      | none => g2 [x] h) := rfl
    rw [u]
    cases insAt [C] h x with
    | some _ => exact .inl rfl
    | none => exact .inr rfl
  | _ :: _ :: _ => exact .inr rfl
end
/-- an own __eq__'s facts, as Bools of the head -/
def eqB (K : PySem.W.Frag) (C : Addr) (tl : List Value) : Bool := (decide (PySem.W.subIn K (.ref C) (.type "NoneType") = some false) && (decide (Value.type "NoneType" ∈ tl) && decide (Value.ref C ∈ tl))) && decide (PySem.W.findIn K (.ref C) "__ne__" = some (some (.builtin "object.__ne__"))) && (insB K C && (tl.all (PySem.W.notFirst K C) && tl.all fun t => match t with
  | .ref D => clsB K D && insB K D
  | _ => true))
theorem eqC_of {K : PySem.W.Frag} {C f : Addr} {tl : List Value} (m : Meth K C "__eq__" f) (c : Cls K C) (h : eqB K C tl = true) : EqC K C f tl := by
  unfold eqB at h
  simp only [Bool.and_eq_true, decide_eq_true_eq] at h
  obtain ⟨⟨⟨n1, n2, n3⟩, h1⟩, h2, h3, h4⟩ := h
  refine ⟨m.at_, m.fn, h1, (insB_ok c h2).hm, fun t ht => List.all_eq_true.mp h3 t ht, fun D hD => ?_, n1, n2, n3⟩
  have := List.all_eq_true.mp h4 _ hD
  simp only [Bool.and_eq_true] at this
  exact insB_ok (clsB_ok this.1) this.2
end Z
/-! x in [None, y], where x bears an own __eq__. -/
namespace ZQ
open PySem PySem.Spec PyProof.Rows PySem.SeqAt
open AutoSeq1 (wpAny_loadPart')
open MeetsSeq MeetsSeq2 MeetsSeq3 SeqRoads2
section
variable {prog : Program} {w : World} {A : Around} {E : Value → Shared → Prop} {s : Shared} {K : PySem.W.Frag} {x C f : Addr} {ox : Obj} {od : Option Obj}
/-- each item is looked at in turn; the list stays -/
def Chain (prog : Program) (w : World) (A : Around) (E : Value → Shared → Prop) (l : Addr) (its : Array Value) (x : Value) (R : Bool → Shared → Prop) : List Value → Shared → Prop
  | [], s => (∃ n, s.heap.get? l = some { cls := .type "list", data := .seq its n }) ∧ R false s
  | y :: ys, s => (∃ n, s.heap.get? l = some { cls := .type "list", data := .seq its n }) ∧ wpAny (model prog w) A (eqBool y x) (fun b s' => (b = true → R true s') ∧ (b = false → Chain prog w A E l its x R ys s')) E s
theorem chain_loop {R : Result → Shared → Prop} (l : Addr) (items : Array Value) (v : Value) (k : Nat) : ∀ (i : Nat) (s : Shared), items.size - i = k →
    Chain prog w A.in1 (fun e s' => R (.error e) s') l items v (fun b s' => R (.ok (.ret (.bool b))) s') (items.toList.drop i) s →
      wpAny (model prog w) A.in1 (Builtin.«list.__contains__.loop» ⟨[.ref l, v, rawInt i], []⟩) (GQ.FinOf prog w A R) (fun e s' => R (.error e) s') s := by
  induction k with
  | zero =>
    intro i s hk c
    have ed : items.toList.drop i = [] := by simp; omega
    rw [ed] at c
    obtain ⟨⟨n, hl⟩, r⟩ := c
    obtain ⟨hp, g, d, tk, os⟩ := s
    wp_walk using wpAny_loadPart' hl
    rw [show items[((i : Nat) : Int).toNat]? = none by simp; omega]
    wp_walk
    exact r
  | succ k ih =>
    intro i s hk c
    have hi : i < items.size := by omega
    have ed : items.toList.drop i = items[i] :: items.toList.drop (i + 1) := by simp [List.drop_eq_getElem_cons, hi]
    rw [ed] at c
    obtain ⟨⟨n, hl⟩, r⟩ := c
    obtain ⟨hp, g, d, tk, os⟩ := s
    wp_walk using wpAny_loadPart' hl
    rw [show items[((i : Nat) : Int).toNat]? = some items[i] by simp [hi]]
    refine wpAny_bind (wpAny_mono r (fun b s2 h2 => ?_) fun _ _ z => z)
    cases b with
    | true =>
      have r2 := h2.1 rfl
      obtain ⟨hp2, g2, d2, tk2, os2⟩ := s2
      wp_walk
      exact r2
    | false =>
      have r2 := ih (i + 1) s2 (by omega) (h2.2 rfl)
      obtain ⟨hp2, g2, d2, tk2, os2⟩ := s2
      wp_walk
      rw [show ((i : Int) + 1) = ((i + 1 : Nat) : Int) by omega]
      refine ⟨plainId_quiet plain_contains_loop _, codeAny_builtin entry_contains_loop ?_⟩
      rw [Around.under_plainId plain_contains_loop _]
      exact r2
theorem in_chain {l : Addr} {items : Array Value} {v : Value} {Q : Value → Shared → Prop}
    (c : Chain prog w A.in1 E l items v (fun b s' => Q (.bool b) s') items.toList s) : wpAny (model prog w) A (compareOp .In v (.ref l)) Q E s := by
  have hl : ∃ n, s.heap.get? l = some { cls := .type "list", data := .seq items n } := by
    cases h : items.toList with
    | nil => rw [h] at c; exact c.1
    | cons y ys => rw [h] at c; exact c.1
  obtain ⟨n, hl⟩ := hl
  show wpAny _ A (do return .bool (← contains (.ref l) v)) Q E s
  refine wpAny_bind (wpAny_contains_slot ⟨_, hl, rfl⟩ PySem.F.slot_list_contains (wpAny_mono (GQ.call_here (Q := fun u s' => ∃ b, u = .bool b ∧ Q (.bool b) s') PySem.F.slot_list_contains ⟨_, hl, rfl⟩ PySem.F.entry_list_contains (PySem.F.args_list_contains_2 _ _) ?_) (fun u s' hu => ?_) fun _ _ z => z))
  · have r := chain_loop (A := A) (R := wants (fun u s' => ∃ b, u = .bool b ∧ Q (.bool b) s') E) l items v _ 0 rfl (s := s) (by
      have e : (fun (b : Bool) (s' : Shared) => wants (fun u s' => ∃ b, u = .bool b ∧ Q (.bool b) s') E (.ok (.ret (.bool b))) s') = fun b s' => Q (.bool b) s' := by
        funext b s'
        refine propext ⟨fun ⟨b', e, q⟩ => ?_, fun q => ⟨b, rfl, q⟩⟩
        cases e; exact q
      rw [e]
      exact c)
    obtain ⟨hp, g, d, tk, os⟩ := s
    wp_walk using wpAny_loadPart' hl
    exact ⟨plainId_quiet plain_contains_loop _, codeAny_builtin entry_contains_loop (by
      rw [Around.under_plainId plain_contains_loop _]
      exact r)⟩
  · obtain ⟨b, rfl, hq⟩ := hu
    exact wpAny_truthy_bool (wpAny_pure hq)
/-- None beside an instance with an own __eq__ -/
theorem eq_none_own {Q : Bool → Shared → Prop} (hu : A.units < cLine) (KX : K.In s.heap) (J : PySem.W.InstAt s.heap x ox C od) (nn : PySem.W.subIn K (.ref C) (.type "NoneType") = some false) (he : PySem.W.findIn K (.ref C) "__eq__" = some (some (.ref f))) (hf : PySem.W.isFn K (.ref f) = true)
    (go : wpAny (model prog w) A (call (.ref f) [.ref x, .none]) (fun v s' => ∃ b, v = .bool b ∧ Q b s') E s) : wpAny (model prog w) A (eqBool .none (.ref x)) Q E s := by
  unfold eqBool
  refine wpAny_holding ?_
  refine wpAny_ite_split (fun hab => absurd (eq_of_beq hab) nofun) (fun _ => ?_)
  refine wpAny_bind (m := richCompare .Eq .none (.ref x)) (wpAny_mono (Q := fun v s' => ∃ b, v = .bool b ∧ Q b s') ?_ (fun v s' hv => by
    obtain ⟨b, rfl, q⟩ := hv
    exact wpAny_truthy_bool q) fun _ _ z => z)
  have one : wpAny (model prog w) A (tryCompare .none "__eq__" (.ref x)) (fun r s' => r = none ∧ s' = s) E s :=
    wpAny_tryCompare_declines (show s.TypeIs .none "NoneType" from rfl) PySem.F.slot_NoneType_eq_refl (call_gives PySem.F.slot_NoneType_eq_refl rfl PySem.F.entry_NoneType_eq (PySem.F.args_NoneType_eq_2 _ _) (NoneType___eq___none_ref_0 x) ⟨rfl, rfl, rfl⟩)
  have two : wpAny (model prog w) A (tryCompare (.ref x) "__eq__" .none) (fun r s' => ∃ v b, r = some v ∧ v = .bool b ∧ Q b s') E s := by
    unfold tryCompare
    refine wpAny_bind (PySem.W.ifBound_K KX J he hf (wpAny_mono go (fun v s' hv => ?_) fun _ _ z => z))
    obtain ⟨b, rfl, q⟩ := hv
    exact wpAny_pure ⟨_, b, rfl, rfl, q⟩
  unfold richCompare
  simp only [cmpInfo_Eq]
  refine wpAny_holding (wpAny_bind (wpAny_cRoomFor hu ?_))
  refine wpAny_bind (wpAny_typeOf (show s.TypeIs .none "NoneType" from rfl) ?_)
  refine wpAny_bind (J.type.here ?_)
  split
  · refine wpAny_bind ((PySem.W.looks_subIn KX nn).here ?_)
    simp only [Bool.false_eq_true, if_false, Bool.not_false, if_true]
    refine wpAny_bind (m := tryCompare .none _ (.ref x)) (wpAny_mono one (fun r s1 z => ?_) fun _ _ e => e)
    obtain ⟨z1, z2⟩ := z
    subst z1
    subst z2
    refine wpAny_bind (m := tryCompare (.ref x) _ .none) (wpAny_mono two (fun r s2 z => ?_) fun _ _ e => e)
    obtain ⟨v, b, z1, z2, q⟩ := z
    subst z1
    subst z2
    exact wpAny_pure ⟨b, rfl, q⟩
  · rename_i q
    exact absurd (by simp) q
end
end ZQ
namespace Z
open PySem PySem.Spec PyProof.Rows L2
def lst2 (h : Hv) (k : Nat) : Option Nat := match h[k]? with
  | some (.lst [.non, .ref m]) => some m
  | _ => none
theorem lst2_of {h : Hv} {k m : Nat} (e : h[k]? = some (.lst [.non, .ref m])) : lst2 h k = some m := by unfold lst2; rw [e]
theorem lst2_ok {h : Hv} {k m : Nat} (e : lst2 h k = some m) : h[k]? = some (.lst [.non, .ref m]) := by
  unfold lst2 at e
  split at e
  · rename_i q; cases e; exact q
  · cases e
/-- the second look of x in [None, y] -/
def inOwn2 (C : Addr) (F : List W → M W) (x : W) (n k m : Nat) : M W := fun h => match lst2 h k with
  | some m' => if m' = m then (if m = n then some (.ok (.bl true), h) else match insAt [C] h (.ref m), insAt [C] h x with
    | some _, some _ => (match F [.ref m, x] h with
      | some (.ok (.bl true), h') => some (.ok (.bl true), h')
      | some (.ok (.bl false), h') => if lst2 h' k = some m then some (.ok (.bl false), h') else none
      | _ => none)
    | _, _ => none) else none
  | none => none
/-- x in [None, y], x of C: the def F says twice what is equal -/
def inOwnM (C : Addr) (F : List W → M W) : W → W → M W := fun x l h => match insAt [C] h x, l with
  | some (n, _, _), .ref k => (match lst2 h k with
    | some m => (match F [x, .non] h with
      | some (.ok (.bl true), h') => some (.ok (.bl true), h')
      | some (.ok (.bl false), h') => inOwn2 C F x n k m h'
      | _ => none)
    | none => none)
  | _, _ => none
section
variable {X : Cx} {k : Nat} {f C : Addr} {fd : FuncData} {p1 p2 : Str} {F : List W → M W} {tl : List Value}
def rIn2 (X : Cx) (C : Addr) (F : List W → M W) (a lp b : Addr) (H1 : Hp) (Q : VK) : Prop := H1 lp = some (.lst [.non, .ref b]) ∧ (b = a → Q (.bl true) H1) ∧ (b ≠ a → (∃ dx vs, H1 b = some (.ins C dx vs)) ∧ (∃ dx vs, H1 a = some (.ins C dx vs)) ∧ spM X.K 2 F [.ref b, .ref a] H1 (fun v H2 => ∃ r, v = .bl r ∧ (r = true → Q (.bl true) H2) ∧ (r = false → H2 lp = some (.lst [.non, .ref b]) ∧ Q (.bl false) H2)) fun _ _ _ => False)
def rIn (X : Cx) (C : Addr) (F : List W → M W) : R2 := fun x l H Q => ∃ a dx vs lp b, x = .ref a ∧ H a = some (.ins C dx vs) ∧ l = .ref lp ∧ H lp = some (.lst [.non, .ref b]) ∧ spM X.K 2 F [.ref a, .non] H (fun v H1 => ∃ r, v = .bl r ∧ (r = true → Q (.bl true) H1) ∧ (r = false → rIn2 X C F a lp b H1 Q)) fun _ _ _ => False
theorem insAt_ref {h : Hv} {w : W} {n : Nat} {D : Addr} {fs : List (Str × W)} (e : insAt [C] h w = some (n, D, fs)) : w = .ref n ∧ h[n]? = some (.ins D fs) := by
  cases w with
  | ref k =>
    have e : (match h[k]? with
      | some (.ins D fs) => if D ∈ [C] then some (k, D, fs) else none
      | _ => none) = some (n, D, fs) := e
    split at e
    · rename_i q
      split at e
      · cases e; exact ⟨rfl, q⟩
      · cases e
    · cases e
  | _ => cases e
theorem lst2_at {ι : List Addr} {H : Hp} {AH : Hv} {n m : Nat} {a : Addr} (s : Sr X.K ι H AH) (ha : ι[n]? = some a) (e : AH[n]? = some (.lst [.non, .ref m])) : ∃ b, ι[m]? = some b ∧ H a = some (.lst [.non, .ref b]) := by
  obtain ⟨vs, hv, v1, r1, e1, q1, v2, r2, e2, q2, e3⟩ := s.at ha e
  obtain ⟨b, hb, e4⟩ := (show ∃ a, ι[m]? = some a ∧ v2 = .ref a from q2)
  have q1 : v1 = .non := q1
  have e3 : r2 = [] := e3
  subst e1 e2 e3 e4 q1
  exact ⟨b, hb, hv⟩
theorem keeps_in : Keeps2 X (rIn X C F) (inOwnM C F) := by
  intro Xx ι AH H w1 w2 v1 v2 Q s r1 r2 h
  unfold inOwnM at h
  cases e1 : insAt [C] AH w1 with
  | none => simp only [e1] at h; exact h.elim
  | some nc =>
    obtain ⟨n, D, fs⟩ := nc
    simp only [e1] at h
    cases w2 with
    | ref kk =>
      simp only at h
      cases e2 : lst2 AH kk with
      | none => simp only [e2] at h; exact h.elim
      | some m =>
        simp only [e2] at h
        obtain ⟨mm, a, dx, vs, ev, ha, hi, rp⟩ := insAt_ok s r1 e1
        obtain rfl := List.mem_singleton.mp mm
        obtain ⟨ew, hn⟩ := insAt_ref e1
        obtain ⟨lp, hlp, el⟩ := (show ∃ a, ι[kk]? = some a ∧ v2 = .ref a from r2)
        obtain ⟨b, hb, hl⟩ := lst2_at s hlp (lst2_ok e2)
        subst ev el ew
        refine ⟨a, dx, vs, lp, b, rfl, hi, rfl, hl, rfl, ι, [.ref n, .non], AH, RWs.mk r1 (RWs.mk (show RW X.K ι H .non .non from rfl) RWs.nl), s, ?_⟩
        cases hF : F [.ref n, .non] AH with
        | none => simp only [hF] at h; exact h.elim
        | some z =>
          obtain ⟨rz, h'⟩ := z
          simp only [hF] at h
          cases rz with
          | error x => exact h.elim
          | ok u =>
            cases u with
            | bl r =>
              cases r with
              | true =>
                intro ι' v H' l s' rv
                exact ⟨true, rw_bl rv, fun _ => h ι' (.bl true) H' l s' rfl, nofun⟩
              | false =>
                intro ι' v H' l s' rv
                refine ⟨false, rw_bl rv, nofun, fun _ => ?_⟩
                simp only at h
                unfold inOwn2 at h
                cases e3 : lst2 h' kk with
                | none => simp only [e3] at h; exact h.elim
                | some m' =>
                  simp only [e3] at h
                  by_cases c : m' = m
                  case neg => rw [if_neg c] at h; exact h.elim
                  rw [if_pos c] at h
                  subst c
                  obtain ⟨b', hb', hl'⟩ := lst2_at s' (l.at hlp) (lst2_ok e3)
                  have eb : b' = b := Option.some.inj (hb'.symm.trans (l.at hb))
                  subst eb
                  have ha' := l.at ha
                  refine ⟨hl', fun eb => ?_, fun nb => ?_⟩
                  · have em : m' = n := by
                      subst eb
                      obtain ⟨l1, e1⟩ := List.getElem?_eq_some_iff.mp hb'
                      obtain ⟨l2, e2⟩ := List.getElem?_eq_some_iff.mp ha'
                      exact (List.getElem_inj s'.nd).mp (e1.trans e2.symm)
                    rw [if_pos em] at h
                    exact h ι' (.bl true) H' l s' rfl
                  · have em : m' ≠ n := fun em => nb (by subst em; exact Option.some.inj (hb'.symm.trans ha'))
                    rw [if_neg em] at h
                    cases e4 : insAt [D] h' (.ref m') with
                    | none => simp only [e4] at h; exact h.elim
                    | some p =>
                      cases e5 : insAt [D] h' (.ref n) with
                      | none => simp only [e4, e5] at h; exact h.elim
                      | some q =>
                        simp only [e4, e5] at h
                        obtain ⟨pn, pD, pf⟩ := p
                        obtain ⟨qn, qD, qf⟩ := q
                        have rm : RW X.K ι' H' (.ref m') (.ref b') := ⟨b', hb', rfl⟩
                        have rn : RW X.K ι' H' (.ref n) (.ref a) := ⟨a, ha', rfl⟩
                        obtain ⟨t1, a1, dx1, vs1, ev1, _, hi1, _⟩ := insAt_ok s' rm e4
                        obtain ⟨t2, a2, dx2, vs2, ev2, _, hi2, _⟩ := insAt_ok s' rn e5
                        obtain rfl := List.mem_singleton.mp t1
                        obtain rfl := List.mem_singleton.mp t2
                        cases ev1; cases ev2
                        refine ⟨⟨dx1, vs1, hi1⟩, ⟨dx2, vs2, hi2⟩, rfl, ι', [.ref m', .ref n], h', RWs.mk rm (RWs.mk rn RWs.nl), s', ?_⟩
                        cases hF2 : F [.ref m', .ref n] h' with
                        | none => simp only [hF2] at h; exact h.elim
                        | some z =>
                          obtain ⟨rz, h2⟩ := z
                          simp only [hF2] at h
                          cases rz with
                          | error x => exact h.elim
                          | ok u =>
                            cases u with
                            | bl r =>
                              cases r with
                              | true => exact fun ι2 v H2 l2 s2 rv => ⟨true, rw_bl rv, fun _ => h ι2 (.bl true) H2 (l.trans l2) s2 rfl, nofun⟩
                              | false =>
                                simp only at h
                                by_cases c : lst2 h2 kk = some m'
                                case neg => rw [if_neg c] at h; exact h.elim
                                rw [if_pos c] at h
                                intro ι2 v H2 l2 s2 rv
                                obtain ⟨b3, hb3, hl3⟩ := lst2_at s2 (l2.at (l.at hlp)) (lst2_ok c)
                                have eb : b3 = b' := Option.some.inj (hb3.symm.trans (l2.at hb'))
                                subst eb
                                exact ⟨false, rw_bl rv, nofun, fun _ => ⟨hl3, h ι2 (.bl false) H2 (l.trans l2) s2 rfl⟩⟩
                            | _ => exact h.elim
            | _ => exact h.elim
    | _ => exact h.elim
theorem op_inOwn (G : FM X.prog X.w X.K X.mg X.base k f fd [p1, p2] F) (hb : Binds X.K fd [p1, p2] []) (hr : Room (k + 1) X.A) (hG : X.A.guards = some []) (eq : EqC X.K C f tl) : OpM X (compareOp .In) (inOwnM C F) :=
  ⟨rIn X C F, fun pins s σ H x y v u Q I rx ry ⟨a, dx, vs, lp, b, ex, hi, el, hl, sp⟩ => by
    subst ex el
    obtain rfl : v = Value.ref a := rx
    obtain rfl : u = Value.ref lp := ry
    have atL : ∀ {s : Shared} {H : Hp}, L2.Inv X pins σ H s → H lp = some (.lst [.non, .ref b]) → ∃ n, s.heap.get? lp = some { cls := .type "list", data := .seq #[.none, .ref b] n } := fun I e => by
      obtain ⟨_, its, n, V, g⟩ := I.hok _ _ e
      cases V with
      | cons r1 V =>
        cases V with
        | cons r2 V =>
          cases V
          obtain rfl := (show _ = Value.none from r1)
          obtain rfl := (show _ = Value.ref b from r2)
          exact ⟨n, g⟩
    obtain ⟨mA, O, _⟩ := ins_get I.hok hi
    obtain ⟨od, J, _⟩ := O.look
    refine ZQ.in_chain (items := #[.none, .ref b]) ⟨atL I hl, ?_⟩
    refine ZQ.eq_none_own (hr.in1 (k := k)).units0 I.kIn J eq.nn eq.eq_ eq.fn (wpAny_mono (own_go G hb hr.in1 hG rfl I (show RelV (.ref a) (Value.ref a) from rfl) (show RelV .non Value.none from rfl) sp) (fun z s' hz => ?_) fun _ _ z => z)
    obtain ⟨w, H', I', rw', r, ew, q1, q2⟩ := hz
    subst ew
    obtain rfl : z = Value.bool r := rw'
    refine ⟨r, rfl, fun er => ?_, fun er => ?_⟩
    · subst er; exact ⟨.bl true, H', I', rfl, q1 rfl⟩
    · obtain ⟨hl', q3, q4⟩ := q2 er
      refine ⟨atL I' hl', ?_⟩
      by_cases eb : b = a
      · subst eb
        unfold eqBool
        refine wpAny_holding ?_
        refine wpAny_ite_split (fun _ => ?_) (fun hab => absurd (beq_self_eq_true _) hab)
        exact wpAny_bind (wpAny_rule (wpAny_pure ⟨fun _ => ⟨.bl true, H', I', rfl, q3 rfl⟩, nofun⟩))
      · obtain ⟨⟨dx1, vs1, hi1⟩, ⟨dx2, vs2, hi2⟩, sp2⟩ := q4 eb
        obtain ⟨mA1, O1, _⟩ := ins_get I'.hok hi1
        obtain ⟨od1, J1, _⟩ := O1.look
        obtain ⟨mA2, O2, _⟩ := ins_get I'.hok hi2
        obtain ⟨od2, J2, _⟩ := O2.look
        obtain ⟨m, hF⟩ := I'.fr
        refine GQ.eqBool_refG eb (PySem.W.cmp_K (op := .Eq) (hr.in1 (k := k)).units0 hF I'.ok.mod.kin J1 J2.type (eq.nf _ eq.me) eq.eq_ eq.fn (wpAny_mono (own_go G hb hr.in1 hG rfl I' (show RelV (.ref b) (Value.ref b) from rfl) (show RelV (.ref a) (Value.ref a) from rfl) sp2) (fun z s' hz => ?_) fun _ _ z => z))
        obtain ⟨w, H2, I2, rw', r, ew, q1, q2⟩ := hz
        subst ew
        obtain rfl : z = Value.bool r := rw'
        exact ⟨r, rfl, fun er => ⟨.bl true, H2, I2, rfl, q1 er⟩, fun er => ⟨atL I2 (q2 er).1, ⟨.bl false, H2, I2, rfl, (q2 er).2⟩⟩⟩, keeps_in⟩
end
end Z
/-! While an exception is handled: the ends of lists and tuples. -/
namespace HotX
open PySem PySem.Spec PyProof.Rows
section
variable {prog : Program} {w : World} {A : Around} {E : Value → Shared → Prop} {s : Shared}
theorem hot_upd {x1 it : Addr} {f : Obj → Obj} {h : Heap} (hot : HotAt A x1 h) (ne : it ≠ x1) : HotAt A x1 (h.update it f) := by
  obtain ⟨hh, o1, vs1, h1, d1, c1⟩ := hot
  exact ⟨hh, o1, vs1, (Heap.get?_update_other _ _ ne).trans h1, d1, c1⟩
theorem hot_push {x1 : Addr} {o : Obj} {h : Heap} (hot : HotAt A x1 h) : HotAt A x1 (h.push o) := by
  obtain ⟨hh, o1, vs1, h1, d1, c1⟩ := hot
  exact ⟨hh, o1, vs1, Heap.get?_push_of_some _ h1, d1, c1⟩
/-- raising a new StopIteration there -/
theorem stop_hot {α : Type} {x1 : Addr} {Q : α → Shared → Prop} {E1 : Value → Shared → Prop} (hot : HotAt A x1 s.heap)
    (hE : ∀ a h', (∀ b o, s.heap.get? b = some o → h'.get? b = some o) → (∃ o, h'.get? a = some o ∧ o.cls = .type "StopIteration") → E1 (.ref a) { s with heap := h' }) :
    wpAny (model prog w) A (newExc (.type "StopIteration") [] >>= fun e => (raiseNew e : Sem α)) Q E1 s := by
  refine wpAny_bind ?_
  simp only [newExc, newTuple]; refine wpAny_bind (wpAny_newObj_type ?_ (by size_fits))
  refine wpAny_bind (m := firstArgMember _ _) (wpAny_of_eq (a := Value.none) (by first | rfl | (simp only [firstArgMember]; rfl)) (wpAny_newObj_type ?_ (by size_fits)))
  have lt1 : ∀ {b : Addr} {o o2 : Obj}, s.heap.get? b = some o → b < (s.heap.push o2).objs.size := fun e => Heap.lt_size (Heap.get?_push_of_some _ e)
  refine raiseNew_hot (hot_push (hot_push hot)) ?_ (Heap.get?_push_size _ rfl) rfl ?_ (hE _ _ (fun b o e => ?_) ?_)
  · obtain ⟨hh, o1, vs1, h1, d1, c1⟩ := hot; exact Nat.ne_of_lt (lt1 h1)
  · first | (simp; done) | (simp; omega) | (simp only [Array.size_append]; simp; omega)
  · rw [Heap.get?_update_other _ _ (Nat.ne_of_gt (lt1 e))]; exact Heap.get?_push_of_some _ (Heap.get?_push_of_some _ e)
  · exact ⟨_, Heap.get?_update_self _ (Heap.get?_push_size _ rfl) rfl, rfl⟩
theorem list_end_hot {it l x1 : Addr} {i : Nat} {items : Array Value} {Q : Option Value → Shared → Prop} (hot : HotAt A.in1 x1 s.heap) (ne : it ≠ x1) (hit : s.heap.IsListIter it l i) (hl : s.heap.IsList l items) (hx : items[i]? = none)
    (hQ : ∀ h', Heap.ExtBut it s.heap h' → Q none { s with heap := h' }) : wpAny (model prog w) A (pyNext (.ref it)) Q E s := by
  obtain ⟨o, ho, hc, hd⟩ := id hit; obtain ⟨ol, hol, _, nl, hdl⟩ := hl
  unfold pyNext; refine wpAny_bind (wpAny_attempt (wpAny_callSpecial?_slot (name := Str.ofString "__next__") hit.typeIs slot_listiter_next (wpAny_call_entry slot_listiter_next hit.typeIs entry_listiter_next ?_ (args_listiter_next _))))
  show wpAny _ _ (field (.ref it) 0 >>= _) _ _ s; refine wpAny_bind (wpAny_field ho hd (x := .ref l) rfl ?_)
  show wpAny _ _ (if (Value.ref l == Value.none) = true then _ else _) _ _ s; rw [if_neg (show ¬ ((Value.ref l == Value.none) = true) from Bool.false_ne_true)]
  show wpAny _ _ (field (.ref it) 1 >>= _) _ _ s; refine wpAny_bind (wpAny_field ho hd (x := .int i 0) rfl ?_)
  show wpAny _ _ (seqItems? (.ref l) >>= _) _ _ s; refine wpAny_bind (wpAny_seqItems hol hdl ?_); simp only [Int.toNat_natCast, hx]
  refine wpAny_bind (wpAny_rule (wpAny_bind (wpAny_setField ho hd (by simp) ?_)))
  refine stop_hot (hot_upd hot ne) fun a h' keep ⟨oe, hoe, hce⟩ => ?_
  refine wpAny_bind (wpAny_isInstance (T := "StopIteration") (b := true) ⟨oe, hoe, hce⟩ isSubtype_stop (wpAny_pure (hQ _ fun b ob hb e => keep b ob ((Heap.get?_update_other _ _ (Ne.symm hb)).trans e))))
theorem tuple_end_hot {it t x1 : Addr} {i : Nat} {items : Array Value} {Q : Option Value → Shared → Prop} (hot : HotAt A.in1 x1 s.heap) (ne : it ≠ x1) (hit : IsTupIter s.heap it t i) (ht : IsTup s.heap t items) (hx : items[i]? = none)
    (hQ : ∀ h', Heap.ExtBut it s.heap h' → Q none { s with heap := h' }) : wpAny (model prog w) A (pyNext (.ref it)) Q E s := by
  obtain ⟨o, ho, hc, hd⟩ := id hit; obtain ⟨ol, hol, _, nl, hdl⟩ := ht
  unfold pyNext; refine wpAny_bind (wpAny_attempt (wpAny_callSpecial?_slot (name := Str.ofString "__next__") hit.typeIs slot_tupleiter_next (wpAny_call_entry slot_tupleiter_next hit.typeIs entry_tupleiter_next ?_ (args_tupleiter_next _))))
  show wpAny _ _ (field (.ref it) 0 >>= _) _ _ s; refine wpAny_bind (wpAny_field ho hd (x := .ref t) rfl ?_)
  show wpAny _ _ (if (Value.ref t == Value.none) = true then _ else _) _ _ s; rw [if_neg (show ¬ ((Value.ref t == Value.none) = true) from Bool.false_ne_true)]
  show wpAny _ _ (field (.ref it) 1 >>= _) _ _ s; refine wpAny_bind (wpAny_field ho hd (x := .int i 0) rfl ?_)
  show wpAny _ _ (seqItems? (.ref t) >>= _) _ _ s; refine wpAny_bind (wpAny_seqItems hol hdl ?_); simp only [Int.toNat_natCast, hx]
  refine wpAny_bind (wpAny_rule (wpAny_bind (wpAny_setField ho hd (by simp) ?_)))
  refine stop_hot (hot_upd hot ne) fun a h' keep ⟨oe, hoe, hce⟩ => ?_
  refine wpAny_bind (wpAny_isInstance (T := "StopIteration") (b := true) ⟨oe, hoe, hce⟩ isSubtype_stop (wpAny_pure (hQ _ fun b ob hb e => keep b ob ((Heap.get?_update_other _ _ (Ne.symm hb)).trans e))))
theorem unpack_hot {t x1 : Addr} {items : Array Value} {Q : List Value → Shared → Prop} (hot : HotAt A x1 s.heap) (ht : IsTup s.heap t items)
    (hQ : ∀ h', Heap.ExtBut s.heap.objs.size s.heap h' → Q items.toList { s with heap := h' }) : wpAny (model prog w) A (unpackItems (.ref t) items.size none) Q E s := by
  have lt : t ≠ s.heap.objs.size := by obtain ⟨o, ho, _⟩ := ht; exact Nat.ne_of_lt (Heap.lt_size ho)
  have lx : s.heap.objs.size ≠ x1 := by obtain ⟨_, o, _, ho, _⟩ := hot; exact Nat.ne_of_gt (Heap.lt_size ho)
  unfold unpackItems; refine wpAny_bind ?_; unfold notIterableAtAll
  refine wpAny_bind (wpAny_specialOf ht.typeIs slot_tuple_iter.lookup (wpAny_pure ?_)); simp only [Bool.false_eq_true, if_false]
  refine wpAny_bind (wpAny_holding (iter_tuple ht (wpAny_bind (wpAny_holding (draw_tuple lt items.size 0 _ _ ⟨_, Heap.get?_push_size _ rfl, rfl, rfl⟩ (ht.push _) (by omega) fun h1 hit1 hs1 => ?_)))))
  have all : List.take items.size (List.drop 0 items.toList) = items.toList := by rw [List.drop_zero]; exact List.take_of_length_le (by simp)
  rw [all, if_neg (by simp)]
  have hot1 : HotAt A.in1 x1 h1 := by
    obtain ⟨hh, o1, vs1, g1, d1, c1⟩ := hot
    exact ⟨hh, o1, vs1, hs1.extBut x1 o1 (Ne.symm lx) (Heap.get?_push_of_some _ g1), d1, c1⟩
  refine wpAny_bind (wpAny_holding (tuple_end_hot hot1 lx hit1 ((ht.push _).extBut hs1.extBut lt) (by simp) fun h2 he2 => ?_))
  simp only [Option.isSome_none, Bool.false_eq_true, if_false]; exact wpAny_pure (hQ h2 fun b o hb e => he2 b o hb (hs1.extBut b o hb (Heap.get?_push_of_some _ e)))
theorem assign_tuple_hot {env : Env} {elts : List Expr} {j : Nat} {pos : Pos} {t x1 : Addr} {items : Array Value} {Q : Unit → Shared → Prop} (hot : HotAt A x1 s.heap) (ht : IsTup s.heap t items) (hn : (assignEach elts env).length = items.size) (hstar : (assignEach elts env).findIdx? (·.1) = none)
    (h : ∀ h', Heap.ExtBut s.heap.objs.size s.heap h' → wpAny (model prog w) A (assignInOrder ((assignEach elts env).map (·.2)) items.toList) Q E { s with heap := h' }) : wpAny (model prog w) A (assign (.Tuple elts j pos) env (.ref t)) Q E s := by
  rw [assign_Tuple]; refine wpAny_bind (wpAny_standAt ?_)
  unfold unpack; rw [hn, hstar]; exact wpAny_bind (wpAny_holding (unpack_hot hot ht h))
end
end HotX
/-! While an exception is handled: lists walked, tuples as targets, comprehensions, any, all. -/
namespace Z
open PySem PySem.Spec PyProof.Rows L2 L2H HotX
theorem hot_ne {X : Cx} {pins : List (Addr × Obj)} {σ : L2.St} {H : Hp} {s : Shared} (c : HotC X) (I : L2.Inv X pins σ H s) : ∃ x1, HotAt X.A x1 s.heap ∧ ∀ b, FpOk X pins H b → b ≠ x1 := by
  obtain ⟨p, ⟨hh, v1, e1, c1⟩, hp⟩ := c
  exact ⟨p.1, ⟨hh, p.2, v1, (I.pin p (List.mem_append_left _ hp)).1, e1, c1⟩, fun b f e => f.2.2.2.2.2 p (List.mem_append_left _ hp) e.symm⟩
theorem one_eq {b it : Addr} (h : b ∈ [it]) : b = it := List.mem_singleton.mp h
/-- a list's turns there: as the calm ones, but for the end -/
theorem turn_lstH {P : Program} {w : World} {K : PySem.W.Frag} {tg : Expr} (a it : Addr) : TurnH P w K tg (Itl K a) [it] it (fun i h => h.IsListIter it a i) where
  mem := (turn_list (P := P) (w := w) (K := K) (tg := tg) a it).mem
  obj := (turn_list (P := P) (w := w) (K := K) (tg := tg) a it).obj
  keep := (turn_list (P := P) (w := w) (K := K) (tg := tg) a it).keep
  self := (turn_list (P := P) (w := w) (K := K) (tg := tg) a it).self
  item := fun X eP ew eK _ i pins s σ H E I hf st ⟨xs, x, hq, hx⟩ => by
    subst eP ew eK
    have F := hf it (List.mem_singleton_self _)
    obtain ⟨its, rv, p, _⟩ := I.list hq
    obtain ⟨u, hu, ru⟩ := rv.get hx
    refine wpAny_pyNext_list_item st p.isList (x := u) (by rw [List.getElem?_toArray]; exact hu) fun h' n' sb => ?_
    obtain ⟨o, e, c, d⟩ := id n'
    refine ⟨u, rfl, go_of (s := { s with heap := h' }) e c d (by decide) ⟨x, H, ?_, ru, ⟨rfl, fun ys hy => ?_⟩, n', fun b hb => (hf b hb).1⟩⟩
    · exact I.turned (t' := s.toks) (fun b o hb e => (sb.2 b hb).trans e) F.1 F.2.1 F.2.2.2.1 F.2.2.2.2.1 F.2.2.2.2.2
    · rw [I.list_inj hy hq]; exact hx
  done := fun X eP ew eK hc i pins s σ H E I hf st ⟨xs, hq, hx⟩ => by
    subst eP ew eK
    have F := hf it (List.mem_singleton_self _)
    obtain ⟨its, rv, p, _⟩ := I.list hq
    obtain ⟨x1, hot, ne⟩ := hot_ne hc I
    have hl := rv.length
    refine list_end_hot (A := X.A) hot (ne it F) st p.isList (by simp; omega) fun h' eb => ⟨rfl, ?_⟩
    exact I.turned (t' := s.toks) (fun b o hb e => eb b o hb e) F.1 F.2.1 F.2.2.2.1 F.2.2.2.2.1 F.2.2.2.2.2
section
variable {X : Cx} {tg : Expr}
theorem pi_lstH {l : Expr} {tl : TE} (hl : PE X l tl) : PIH X tg l (iList X.K tl) := ⟨fun pins s σ H R I h => thn (hl.run pins s σ H _ I h) fun v s1 ⟨x, H1, I1, r1, a, e, ⟨xs, hq⟩, q⟩ => by
  subst e
  obtain rfl : v = Value.ref a := r1
  obtain ⟨its, rv, p, _⟩ := I1.list hq
  refine wpAny_pyIter_list p.isList ⟨s1.heap.objs.size, [s1.heap.objs.size], _, _, H1, rfl, I1.kept (t' := s1.toks) fun b o e => Heap.get?_push_of_some _ e, turn_lstH a _, ⟨_, Heap.get?_push_size _ rfl, rfl, rfl⟩, fun b hb => ?_, q⟩
  rw [one_eq hb]
  exact I1.fpOk (Nat.le_refl _) (I1.hok.fresh (Nat.le_refl _))⟩
theorem pg_tupH {pos : Pos} {es : List Expr} {k : Nat} {t : TGs} {n : Nat} (hc : HotC X) (h : PGs X es t)
    (hn : (assignEach es X.env).length = n := by rfl) (hst : (assignEach es X.env).findIdx? (·.1) = none := by rfl) : PG X (.Tuple es k pos) (gTup X.K n t) := ⟨fun pins s σ H v u Q I r ⟨a, xs, e1, hq, hl, hw⟩ => by
  subst e1
  obtain rfl : u = Value.ref a := r
  obtain ⟨its, rv, ht, _⟩ := I.tuple hq
  obtain ⟨x1, hot, _⟩ := hot_ne hc I
  refine assign_tuple_hot hot ht (by simp [hn, ← hl, rv.length]) hst fun h' hx => h.run pins _ σ H xs _ Q (I.kept (t' := s.toks) fun b o e => hx b o (Nat.ne_of_lt (Heap.lt_size e)) e) (by simpa using rv) hw⟩
end
/-- the context of a block that starts at s while an exception is handled -/
abbrev blkH (X : Cx) (s : Shared) (H : Hp) (scope : Scope) (cenv : Env) (fp : List Addr) : Cx := { X.blk s H scope cenv fp with pn := X.pn }
section
variable {X : Cx} {pins : List (Addr × Obj)} {σ : L2.St} {H : Hp} {s : Shared}
theorem block_startH {scope : Scope} {own : List (Str × Nat)} {fp : List Addr} (I : L2.Inv X pins σ H s) (ok : BlkOk X.N X.env.scope scope own) (hN : X.N.Nodup) (hfp : ∀ b ∈ fp, FpOk X pins H b ∧ b < s.heap.objs.size) :
    L2.Inv (blkH X s H scope (compEnvC scope (cellsFrom (s.heap.objs.size + 1) scope.names (cloFrom X.env.cells scope.names [])) s.heap.objs.size X.env) fp) [] (wipe σ (own.map (·.2))) H { s with heap := pushCells (s.heap.push { cls := .type "dict", data := .dict #[] }) scope.names } := by
  have B := block_start I ok hN hfp
  have O := B.ok
  refine ⟨⟨O.mod, O.kind, O.glob, O.blt, O.above, O.inj, O.has, O.cab, O.hd, O.frames, O.stk, O.exf, O.bs, O.bsz, O.noex, O.exfs, O.funs, O.frf⟩, B.os, B.bare, B.base, B.loc, B.cell, B.free, B.freeC, fun p hp => ?_, B.hok, B.len⟩
  have hp : p ∈ X.pn ++ pins := List.mem_append_left _ (by simpa using hp)
  obtain ⟨g, f, nl, nf, nc⟩ := I.pin p hp
  exact ⟨pushCells_keeps _ _ _ _ (Heap.get?_push_of_some _ g), f, Nat.ne_of_lt (Heap.lt_size g), fun z => (List.mem_cons.mp (I.stkSub p.1 z)).elim nl nf, nc⟩
end
/-! ### any, all -/
theorem walks_lstH {prog : Program} {w : World} {A : Around} {x1 : Addr} {o1 : Obj} {vs1 : Array Value} (hh : A.handled = some (.ref x1)) (d1 : o1.data = .fields vs1) (c1 : vs1[2]? = some .none) (I ax : Addr) (hne : ax ≠ I) (hx : I ≠ x1) (items : Array Value) :
    PySem.Walks prog w A I [I, ax, x1] [I] items.size (fun i v => items[i]? = some v) (fun i h => (h.IsListIter I ax i ∧ h.IsList ax items) ∧ h.get? x1 = some o1) where
  sub := fun b hb => by rw [one_eq hb]; simp
  frame := fun _ _ _ st hk => ⟨⟨st.1.1.at fun o e => hk I (by simp) o e, st.1.2.at fun o e => hk ax (by simp) o e⟩, hk x1 (by simp) _ st.2⟩
  item := fun i s Q E hi st hQ => wpAny_pyNext_list_item st.1.1 st.1.2 (x := items[i]) (by simp [hi]) fun h' hit' hs' =>
    hQ _ h' s.toks (by simp [hi]) ⟨⟨hit', st.1.2.extBut hs'.extBut hne⟩, hs'.extBut x1 o1 (Ne.symm hx) st.2⟩ fun b o hb e => hs'.extBut b o (fun h => hb (by simp [h])) e
  done := fun s Q E st hQ => list_end_hot ⟨hh, o1, vs1, st.2, d1, c1⟩ hx st.1.1 st.1.2 (by simp) fun h' he' => hQ h' s.toks fun b o hb e => he' b o (fun h => hb (by simp [h])) e
  self := fun _ _ _ _ st hQ => wpAny_pyIter_listiter st.1.1 hQ
section
variable {X : Cx}
theorem cr_anyH (hc : HotC X) : CallR X (.builtin "any") (rAny X.K) := fun pins s σ H vs us Q I r ⟨a, bs, ev, hs, q⟩ => by
  subst ev
  obtain ⟨its, rv, hl, _⟩ := I.list hs
  obtain ⟨x1, ⟨hh, o1, vs1, g1, d1, c1⟩, _⟩ := hot_ne hc I
  rw [Vals.ref1 r]
  refine call_any_walk (iter_any hl.isList fun s₂ e2 st hne => ?_)
  subst e2
  refine ⟨_, _, _, _, _, _, _, rfl, walks_lstH (A := X.A.in1) hh d1 c1 _ a hne (Nat.ne_of_gt (Heap.lt_size g1)) its.toArray, ⟨st, Heap.get?_push_of_some _ g1⟩, truth_bools rv.bls, fun h' tk hk => ⟨.bl _, H, I.kept fun b o eo => hk b o (fun m => absurd (Heap.lt_size eo) (by rw [one_eq m]; exact Nat.lt_irrefl _)) (Heap.get?_push_of_some _ eo), ?_, q⟩⟩
  show Value.bool _ = Value.bool _
  rw [← L2.any_range, rv.bls, List.size_toArray, List.length_map]
theorem cr_allH (hc : HotC X) : CallR X (.builtin "all") (rAll X.K) := fun pins s σ H vs us Q I r ⟨a, bs, ev, hs, q⟩ => by
  subst ev
  obtain ⟨its, rv, hl, _⟩ := I.list hs
  obtain ⟨x1, ⟨hh, o1, vs1, g1, d1, c1⟩, _⟩ := hot_ne hc I
  rw [Vals.ref1 r]
  refine call_all_walk (iter_any hl.isList fun s₂ e2 st hne => ?_)
  subst e2
  refine ⟨_, _, _, _, _, _, _, rfl, walks_lstH (A := X.A.in1) hh d1 c1 _ a hne (Nat.ne_of_gt (Heap.lt_size g1)) its.toArray, ⟨st, Heap.get?_push_of_some _ g1⟩, truth_bools rv.bls, fun h' tk hk => ⟨.bl _, H, I.kept fun b o eo => hk b o (fun m => absurd (Heap.lt_size eo) (by rw [one_eq m]; exact Nat.lt_irrefl _)) (Heap.get?_push_of_some _ eo), ?_, q⟩⟩
  show Value.bool _ = Value.bool _
  rw [← L2.all_range, rv.bls, List.size_toArray, List.length_map]
end
end Z
/-! ### a comprehension -/
namespace Z
open PySem PySem.Spec PyProof.Rows L2 L2H HotX
section
variable {B : Cx} {elt tg : Expr} {ifs : List Expr} {J : It} {fp : List Addr} {it D : Addr} {tn : Nat → Heap → Prop} {g : TG} {tt : TT} {te : TE} {τ : L2.St} {vs : List Nat}
/-- between two turns -/
def Mid (B : Cx) (fp : List Addr) (tn : Nat → Heap → Prop) (τ : L2.St) (W : Nat → Nat → Hp → Prop) (n : Nat) (s : Shared) : Prop := ∃ i H, L2.Inv B [] τ H s ∧ tn i s.heap ∧ (∀ b ∈ fp, H b = none) ∧ W i n H
/-- one turn of a block's loop -/
theorem turn_blk {W : Nat → Nat → Hp → Prop} {Q : VK} {R : Shared → Prop} {E0 : Value → Shared → Prop} (T : TurnH B.prog B.w B.K tg J fp it tn) (hc : HotC B) (pg : PG B tg g) (pt : PTs B ifs tt) (pe : PE B elt te) (hx : B.xe = fun _ _ => False)
    (cl : ∀ {H' : Hp} {s' : Shared}, L2.Inv B [] τ H' s' → (∀ b ∈ fp, H' b = none) → ∀ b ∈ fp, FpOk B [] H' b)
    (turn : ∀ i m H, W i m H → (J.stop i H ∧ Q (.ref D) H) ∨ (J.go i H ∧ ∃ Nx : Hp → Prop, (∀ H', Nx H' → ∃ m', m' < m ∧ W (i + 1) m' H') ∧ ∀ x H', J.yld i H x H' → g x τ H' fun σ2 H2 => wipe σ2 vs = τ ∧ tt σ2 H2 fun b H3 =>
      if b = true then te σ2 H3 fun y H4 => ∃ acc, H4 D = some (.lst acc) ∧ acc.length < sizeLine ∧ Nx (upd H4 D (.lst (acc ++ [y]))) else Nx H3))
    (stop : ∀ H' s', L2.Inv B [] τ H' s' → Q (.ref D) H' → R s') {n : Nat} {s : Shared} (h : Mid B fp tn τ W n s) :
    wpAny (model B.prog B.w) B.A (pyNext (.ref it)) (fun r s₁ => match r with
      | none => R s₁
      | some v => wpAny (model B.prog B.w) B.A (letOwnedTupleGo tg (.ref it) v) (fun _ s₂ => wpAny (model B.prog B.w) B.A (assign tg B.env v) (fun _ s₃ =>
          wpAny (model B.prog B.w) B.A (forIn ifs true fun c r => if r = true then do let ok ← isTrue c B.env (eval c B.env); pure (ForInStep.yield ok) else pure (ForInStep.yield r)) (fun ok s₄ =>
            if ok = true then wpAny (model B.prog B.w) B.A (eval elt B.env) (fun x s₅ =>
              wpAny (model B.prog B.w) B.A (call (.builtin "list.append") [.ref D, x]) (fun _ s₆ => ∃ m, m < n ∧ Mid B fp tn τ W m s₆) E0 s₅) E0 s₄
            else ∃ m, m < n ∧ Mid B fp tn τ W m s₄) E0 s₃) E0 s₂) E0 s₁) E0 s := by
  obtain ⟨i, H, I, st, nf, w⟩ := h
  rcases turn i n H w with ⟨e, q⟩ | ⟨go, Nx, less, step⟩
  · exact thnF (T.done B rfl rfl rfl hc i [] s τ H (fun _ _ => False) I (cl I nf) st e) fun r s1 ⟨er, I1⟩ => by
      subst er; exact stop H s1 I1 q
  refine thnF (T.item B rfl rfl rfl hc i [] s τ H (fun _ _ => False) I (cl I nf) st go) fun r s1 ⟨u, er, h1⟩ => ?_
  subst er
  refine thnF h1 fun _ s2 ⟨x, H2, I2, r2, y2, st2, nf2⟩ => ?_
  have kept := T.obj _ _ st2
  -- an end of the turn
  have fin : ∀ {σ' : L2.St} {s' : Shared} {H' : Hp}, wipe σ' vs = τ → L2.Inv B ([] ++ pinsAt fp s2.heap) σ' H' s' → Nx H' → ∃ m, m < n ∧ Mid B fp tn τ W m s' := fun {σ' s' H'} ew I' nx => by
    obtain ⟨m, lt, w'⟩ := less H' nx
    have at' : ∀ b ∈ fp, ∀ o, s2.heap.get? b = some o → s'.heap.get? b = some o ∧ H' b = none := fun b hb o e => by
      have z := I'.pin (b, o) (List.mem_append_right _ (List.mem_append_right _ (mem_pinsAt hb e)))
      exact ⟨z.1, z.2.1⟩
    refine ⟨m, lt, i + 1, H', (I'.unpinned (pins := [])).weak (by rw [← ew, wipe_length]) (fun j v e => ?_), T.keep _ _ _ st2 fun b hb o e => (at' b hb o e).1, fun b hb => ?_, w'⟩
    · rw [← ew] at e; exact (wipe_some e).1
    · obtain ⟨o, e, _⟩ := kept b hb; exact (at' b hb o e).2
  have no : ∀ {α : Type} {t : Sem α} {Q1 Q2 : α → Shared → Prop} {s' : Shared}, wpAny (model B.prog B.w) B.A t Q1 B.xe s' → (∀ a s, Q1 a s → Q2 a s) → wpAny (model B.prog B.w) B.A t Q2 E0 s' := fun h f => by
    rw [hx] at h; exact thnF h f
  refine no (pg.run _ s2 τ H2 x u _ (I2.pinned (cl I2 nf2) kept) r2 (step x H2 y2)) fun _ s3 ⟨σ3, H3, I3, ew, q3⟩ => ?_
  refine no (pt.run _ s3 σ3 H3 _ I3 q3) fun b s4 ⟨H4, I4, q4⟩ => ?_
  cases b with
  | false =>
    simp only [Bool.false_eq_true, if_false] at q4 ⊢
    exact fin ew I4 q4
  | true =>
    simp only [if_true] at q4 ⊢
    refine no (pe.run _ s4 σ3 H4 _ I4 q4) fun z s5 ⟨y, H5, I5, r5, acc, hD, hz, nx⟩ => ?_
    exact app_ok (X := B) I5 hD hz r5 fun s6 I6 => fin ew I6 nx
end
end Z
namespace Z
open PySem PySem.Spec PyProof.Rows L2 L2H HotX
section
variable {X : Cx} {elt tg iter : Expr} {ifs : List Expr} {scope : Scope} {own : List (Str × Nat)} {pos pos' : Pos} {wi : TI} {g : TG} {tt : TT} {te : TE}
/-- what a block's parts are asked for there -/
structure BlkH (X : Cx) (elt tg : Expr) (ifs : List Expr) (scope : Scope) (g : TG) (tt : TT) (te : TE) : Prop where
  pg : ∀ (s : Shared) (H : Hp) (C : Addr) (cl : List (Str × Addr)) (fp : List Addr), PG (blkH X s H scope (compEnvC scope cl C X.env) fp) tg g
  pt : ∀ (s : Shared) (H : Hp) (C : Addr) (cl : List (Str × Addr)) (fp : List Addr), PTs (blkH X s H scope (compEnvC scope cl C X.env) fp) ifs tt
  pe : ∀ (s : Shared) (H : Hp) (C : Addr) (cl : List (Str × Addr)) (fp : List Addr), PE (blkH X s H scope (compEnvC scope cl C X.env) fp) elt te
/-- [elt for tg in iter if ..] while an exception is handled; what comes behind: fin -/
theorem lc_hot {s : Shared} {σ : L2.St} {H : Hp} {pins : List (Addr × Obj)} {Q : VK} {use : Option (Value → Sem Unit)} {Qf : Value → Shared → Prop} (hc : HotC X) (hN : X.N.Nodup) (I : L2.Inv X pins σ H s) (hi : PIH X tg iter wi) (ok : BlkOk X.N X.env.scope scope own) (bk : BlkH X elt tg ifs scope g tt te)
    (hs : ∀ x, foldedSetIterable iter X.env x = pure x) (h : tLc wi g tt te (own.map (·.2)) σ H Q)
    (fin : ∀ D C s' m H', L2.Inv X pins σ H' s' → Q (.ref D) H' → s'.heap.Ns C m → FpOk X pins H' C → compPost (model X.prog X.w) X.A X.xe use Qf (.ref D) C (.ok .next) s') :
    wpAny (model X.prog X.w) X.A (comprehension (.ListComp elt [⟨tg, iter, ifs, 0⟩] scope pos) scope X.env pos' (newList []) false (eval iter X.env) use) Qf X.xe s := by
  refine wpAny_comprehension_free (use := use) rfl hs (closure_ok fun y hy e => I.ok.has _ ((ok.free y hy e).elim .inl .inr)) ok.kind (fun y hy e => by rw [ok.uniq y hy, e])
    (thn (hi.run pins s σ H _ I h) fun _ s1 hx => thn hx fun _ s2 ⟨it, fp, tn, J, H2, e, I2, T, st2, f2, q⟩ => ?_)
  subst e
  refine wpAny_newObj_type (newEnv_comp ?_) (by show 0 ≤ sizeLine; decide)
  obtain ⟨W, ⟨m0, w0⟩, turn⟩ := q s2.heap.objs.size (I2.hok.fresh (Nat.le_refl _))
  have grow : ∀ b o, s2.heap.get? b = some o → (s2.heap.push { cls := .type "list", data := .seq ([] : List Value).toArray }).get? b = some o := fun b o e => Heap.get?_push_of_some _ e
  have I3 : L2.Inv X pins σ (upd H2 s2.heap.objs.size (.lst [])) { s2 with heap := s2.heap.push { cls := .type "list", data := .seq ([] : List Value).toArray } } :=
    I2.laid (t' := s2.toks) grow (Nat.le_refl _) ⟨Nat.zero_le _, [], 0, .nil, Heap.get?_push_size _ rfl⟩
  have old : ∀ b ∈ fp, b < s2.heap.objs.size := fun b hb => (T.obj _ _ st2 b hb).elim fun o e => Heap.lt_size e.1
  have st3 := T.keep 0 _ _ st2 fun b _ o e => grow b o e
  have f3 : ∀ b ∈ fp, FpOk X pins (upd H2 s2.heap.objs.size (.lst [])) b ∧ b < (s2.heap.push { cls := .type "list", data := .seq ([] : List Value).toArray }).objs.size := fun b hb =>
    ⟨⟨by rw [upd_ne (Nat.ne_of_lt (old b hb))]; exact (f2 b hb).1, (f2 b hb).2⟩, by rw [Heap.size_push]; exact Nat.lt_succ_of_lt (old b hb)⟩
  generalize s2.heap.objs.size = D at I3 f3 turn w0 ⊢
  generalize upd H2 D (.lst []) = H3 at I3 f3 w0
  generalize hs3 : ({ s2 with heap := s2.heap.push { cls := .type "list", data := .seq ([] : List Value).toArray } } : Shared) = s3 at I3
  have hh3 : s2.heap.push { cls := .type "list", data := .seq ([] : List Value).toArray } = s3.heap := by rw [← hs3]
  rw [hh3] at st3 f3
  have I4 := block_startH I3 ok hN f3
  have st4 : tn 0 (pushCells (s3.heap.push { cls := .type "dict", data := .dict #[] }) scope.names) := T.keep _ _ _ st3 fun b _ o e => pushCells_keeps _ _ _ _ (Heap.get?_push_of_some _ e)
  have pg := bk.pg s3 H3 s3.heap.objs.size (cellsFrom (s3.heap.objs.size + 1) scope.names (cloFrom X.env.cells scope.names [])) fp
  have pt := bk.pt s3 H3 s3.heap.objs.size (cellsFrom (s3.heap.objs.size + 1) scope.names (cloFrom X.env.cells scope.names [])) fp
  have pe := bk.pe s3 H3 s3.heap.objs.size (cellsFrom (s3.heap.objs.size + 1) scope.names (cloFrom X.env.cells scope.names [])) fp
  have goal : codeAny (model X.prog X.w) X.A (.compStart (.ListComp elt [⟨tg, iter, ifs, 0⟩] scope pos) 0 (.ref it) (.ref D) (compEnvC scope (cellsFrom (s3.heap.objs.size + 1) scope.names (cloFrom X.env.cells scope.names [])) s3.heap.objs.size X.env)) (compPost (model X.prog X.w) X.A X.xe use Qf (.ref D) s3.heap.objs.size)
      { s3 with heap := pushCells (s3.heap.push { cls := .type "dict", data := .dict #[] }) scope.names } := by
    have cL : (compEnvC scope (cellsFrom (s3.heap.objs.size + 1) scope.names (cloFrom X.env.cells scope.names [])) s3.heap.objs.size X.env).locals = s3.heap.objs.size := rfl
    generalize compEnvC scope (cellsFrom (s3.heap.objs.size + 1) scope.names (cloFrom X.env.cells scope.names [])) s3.heap.objs.size X.env = ce at I4 pg pt pe cL ⊢
    have loop : codeAny (model X.prog X.w) X.A (.compLoop (.ListComp elt [⟨tg, iter, ifs, 0⟩] scope pos) 0 (.ref it) (.ref D) ce) (compPost (model X.prog X.w) X.A X.xe use Qf (.ref D) s3.heap.objs.size)
        { s3 with heap := pushCells (s3.heap.push { cls := .type "dict", data := .dict #[] }) scope.names } := by
      refine compLoop_any (Mid (blkH X s3 H3 scope ce fp) fp tn (wipe σ (own.map (·.2))) W) (fun n s' hm => ?_) m0 ⟨0, H3, I4, st4, fun b hb => (f3 b hb).1.1, w0⟩
      refine turn_blk (B := blkH X s3 H3 scope ce fp) (vs := own.map (·.2)) (Q := Q) T (show HotC (blkH X s3 H3 scope ce fp) from hc) pg pt pe rfl (fun {H' s'} I' nf b hb => ?_) turn (fun H' s' I' q => ?_) hm
      · exact ⟨nf b hb, (I'.ok.exf b hb).1, I'.ok.exfs b hb, .inl hb, fun x c e => (I'.ok.exf b hb).2 x c e, fun p hp => (f3 b hb).1.2.2.2.2.2 p (List.mem_append_left _ (by simpa using hp))⟩
      · obtain ⟨m, hn, _⟩ := I'.loc
        have hn : s'.heap.Ns ce.locals m := hn
        rw [cL] at hn
        exact fin D s3.heap.objs.size s' m H' (I3.call' (ch := fp) I'.os I'.base I'.hok I'.bare fun b hb => ⟨(f3 b hb).1.2.2.2.1, (f3 b hb).1.2.1, (f3 b hb).1.2.2.2.2.1, (f3 b hb).1.2.2.2.2.2⟩) q hn
          (I3.fpOk (Nat.le_refl _) (by have z : H' ce.locals = none := I'.free; rw [cL] at z; exact z))
    exact codeAny_compStart_list loop (T.self X.A 0 _ _ _ st4 loop)
  subst hs3
  exact goal
end
end Z
/-! While an exception is handled: the readings. -/
namespace Z
open PySem PySem.Spec PyProof.Rows L2 L2H HotX
section
variable {X : Cx} {elt tg iter : Expr} {ifs : List Expr} {scope : Scope} {own : List (Str × Nat)} {pos : Pos} {wi : TI} {g : TG} {tt : TT} {te : TE}
theorem pe_lcH (hc : HotC X) (hN : X.N.Nodup) (hi : PIH X tg iter wi) (ok : BlkOk X.N X.env.scope scope own) (bk : BlkH X elt tg ifs scope g tt te) (hs : ∀ x, foldedSetIterable iter X.env x = pure x) : PE X (.ListComp elt [⟨tg, iter, ifs, 0⟩] scope pos) (tLc wi g tt te (own.map (·.2))) := ⟨fun pins s σ H Q I h => by
  rw [eval_ListComp]
  exact lc_hot hc hN I hi ok bk hs h fun D C s' m H' I' q hn f => ⟨m, hn, fun h2 sb => ⟨.ref D, H', I'.turned (t' := s'.toks) (fun b o hb e => (sb.2 b hb).trans e) f.1 f.2.1 f.2.2.2.1 f.2.2.2.2.1 f.2.2.2.2.2, rfl, q⟩⟩⟩
theorem ps_setLcH {i : Nat} {y : Str} {py spos : Pos} (hc : HotC X) (hN : X.N.Nodup) (hy : X.N[i]? = some y) (hyl : X.env.scope.names.lookup y = some .local) (hsw : swapsWith (.ListComp elt [⟨tg, iter, ifs, 0⟩] scope pos) (some (.Name y py)) spos.line X.env = pure true)
    (hi : PIH X tg iter wi) (ok : BlkOk X.N X.env.scope scope own) (bk : BlkH X elt tg ifs scope g tt te) (hs : ∀ x, foldedSetIterable iter X.env x = pure x) : PS X (.Assign [.Name y py] (.ListComp elt [⟨tg, iter, ifs, 0⟩] scope pos) spos) (tAsg (tLc wi g tt te (own.map (·.2))) (gName i)) := ⟨fun pins s σ H D I h => by
  rw [exec_Assign_Name_used _ _ _ _ hsw]
  refine wpAny_bind (wpAny_standAt (wpAny_bind ?_))
  have h : tLc wi g tt te (own.map (·.2)) σ H (fun x H1 => gName i x σ H1 D.nx) := h
  refine wpAny_bind (thn (lc_hot (use := some (assign (.Name y py) X.env)) (Qf := fun _ s' => SP X pins D .next s') hc hN I hi ok bk hs h fun L C s' m H' I' q hn f => ?_) fun _ s' hq => wpAny_pure (wpAny_pure hq))
  show wpAny _ _ (assign (.Name y py) X.env (.ref L)) _ _ _
  refine wpAny_assign_Name (store_ok2 (v := V.ref L) I' hN hy (.inl hyl) rfl (fun s2 I2 ⟨a, sb, ha⟩ => ?_) (.inr hyl))
  refine ⟨m, hn.sameBut sb (ha.elim (fun z => by rw [z]; exact f.2.1) fun z e => f.2.2.2.2.1 y a z e.symm), fun h3 sb3 => ?_⟩
  exact ⟨_, H', I2.turned (t' := s2.toks) (fun b o hb e => (sb3.2 b hb).trans e) f.1 f.2.1 f.2.2.2.1 f.2.2.2.2.1 f.2.2.2.2.2, q⟩⟩
end
/-! ### by readings -/
structure PIHm (X : Cx) (Wx : WX) (tg iter : Expr) (m : ME Src) : Prop where
  pi : PIH X tg iter (tG X.K (RI X.K) Wx m)
def srcL (w : W) : M Src := fun h => match seqL h w with
  | some ws => some (.ok ⟨fun h' => seqL h' w = some ws, ws⟩, h)
  | none => none
def mItL (m : ME W) : ME Src := bE m fun w => fun _ => srcL w
section
variable {X : Cx} {Wx : WX} {tg iter a : Expr} {ma : ME W}
theorem PIH_imp {wi wi' : TI} (h : PIH X tg iter wi) (f : ∀ σ H R, wi' σ H R → wi σ H R) : PIH X tg iter wi' := ⟨fun pins s σ H R I q => h.run pins s σ H R I (f σ H R q)⟩
theorem t_itL {σ : L2.St} {H : Hp} {R : It → Hp → Prop} (q : tG X.K (RI X.K) Wx (mItL ma) σ H R) : iList X.K (tE X.K Wx ma) σ H R := tG_bnd q fun ι1 w AH1 v H1 e re s1 r1 q => by
  cases e1 : seqL AH1 w with
  | none => unfold srcL at q; simp only [e1] at q; exact q.elim
  | some ws =>
    unfold srcL at q
    simp only [e1] at q
    obtain ⟨p, vs, rfl, hq, rs⟩ := seqL_ok s1 r1 e1
    exact ⟨p, rfl, ⟨vs, hq⟩, q ι1 _ H1 Le.refl s1 (walks_l (v := .non) r1 fun _ _ => trivial)⟩
theorem i_lst (h : PEm X Wx a ma) : PIm X Wx tg a (mItL ma) := ⟨PI_imp (pi_list h.pe) fun σ H R q => t_itL q⟩
theorem i_lstH (h : PEm X Wx a ma) : PIHm X Wx tg a (mItL ma) := ⟨PIH_imp (pi_lstH h.pe) fun σ H R q => t_itL q⟩
end
section
variable {X : Cx} {Wx : WX} {tg iter elt : Expr} {ifs : List Expr} {scope : Scope} {own : List (Str × Nat)} {pos : Pos} {ml : ME Src} {g : W → Ev → Option Ev} {tt : ME Bool} {te : ME W}
theorem b_tupH {vs : List Nat} {es : List Expr} {j n : Nat} {k : List W → Ev → Option Ev} (hc : HotC X) (h : PBsm X es vs k) (hn : (assignEach es X.env).length = n := by rfl) (hst : (assignEach es X.env).findIdx? (·.1) = none := by rfl) : PBm X (.Tuple es j pos) vs (bTp n k) := by
  obtain ⟨t, a1, b1⟩ := h
  refine ⟨_, pg_tupH hc a1 hn hst, fun ι H e σ w v e1 Q re rv eg q => ?_⟩
  unfold bTp at eg
  cases et : asT w with
  | none => rw [et] at eg; cases eg
  | some ws =>
    simp only [et] at eg
    obtain rfl := asT_eq et
    obtain ⟨p, us, ep, hq, rs⟩ := rw_tup rv
    by_cases c : ws.length = n
    · rw [if_pos c] at eg
      exact ⟨p, us, ep, hq, rs.length ▸ c, b1 ι H e σ ws us e1 Q re rs eg q⟩
    · rw [if_neg c] at eg; cases eg
structure BlkHm (X : Cx) (elt tg : Expr) (ifs : List Expr) (scope : Scope) (vs : List Nat) (g : W → Ev → Option Ev) (tt : ME Bool) (te : ME W) : Prop where
  pg : ∀ (s : Shared) (H : Hp) (C : Addr) (cl : List (Str × Addr)) (fp : List Addr), HotC (blkH X s H scope (compEnvC scope cl C X.env) fp) → PBm (blkH X s H scope (compEnvC scope cl C X.env) fp) tg vs g
  pt : ∀ (s : Shared) (H : Hp) (C : Addr) (cl : List (Str × Addr)) (fp : List Addr), HotC (blkH X s H scope (compEnvC scope cl C X.env) fp) → PIfm (blkH X s H scope (compEnvC scope cl C X.env) fp) ifs tt
  pe : ∀ (s : Shared) (H : Hp) (C : Addr) (cl : List (Str × Addr)) (fp : List Addr), HotC (blkH X s H scope (compEnvC scope cl C X.env) fp) → PEm (blkH X s H scope (compEnvC scope cl C X.env) fp) WF elt te
theorem BlkHm.blk {vs : List Nat} (hc : HotC X) (b : BlkHm X elt tg ifs scope vs g tt te) : BlkH X elt tg ifs scope (tBm X.K vs g) (tT X.K WF tt) (tE X.K WF te) :=
  ⟨fun s H C cl fp => (b.pg s H C cl fp hc).pg, fun s H C cl fp => (b.pt s H C cl fp hc).pt, fun s H C cl fp => (b.pe s H C cl fp hc).pe⟩
theorem m_lcH (hc : HotC X) (hN : X.N.Nodup) (hi : PIHm X Wx tg iter ml) (ok : BlkOk X.N X.env.scope scope own) (b : BlkHm X elt tg ifs scope (own.map (·.2)) g tt te) (hs : ∀ x, foldedSetIterable iter X.env x = pure x := by intro _; rfl) :
    PEm X Wx (.ListComp elt [⟨tg, iter, ifs, 0⟩] scope pos) (mLc ml g tt te (own.map (·.2))) := .imp (pe_lcH hc hN hi.pi ok (b.blk hc) hs) t_lc
theorem s_setLcH {i : Nat} {y : Str} {py spos : Pos} (hc : HotC X) (hN : X.N.Nodup) (hy : X.N[i]? = some y) (hyl : X.env.scope.names.lookup y = some .local) (hsw : swapsWith (.ListComp elt [⟨tg, iter, ifs, 0⟩] scope pos) (some (.Name y py)) spos.line X.env = pure true)
    (hi : PIHm X Wx tg iter ml) (ok : BlkOk X.N X.env.scope scope own) (b : BlkHm X elt tg ifs scope (own.map (·.2)) g tt te) (hs : ∀ x, foldedSetIterable iter X.env x = pure x := by intro _; rfl) : PSm X Wx (.Assign [.Name y py] (.ListComp elt [⟨tg, iter, ifs, 0⟩] scope pos) spos) (sAsg (mLc ml g tt te (own.map (·.2))) (gNm i)) :=
  ⟨PS_imp (ps_setLcH (i := i) hc hN hy hyl hsw hi.pi ok (b.blk hc) hs) fun D σ H q => t_lc σ H (fun v H1 => D.nx (σ.set i (some v)) H1) (tS_eS (R := RW X.K) q fun ι1 w AH1 v H1 e re s1 r1 q => q ι1 _ H1 Le.refl s1 (re.set r1))⟩
theorem c_allH (hc : HotC X) : CallM X (.builtin "all") allM := ⟨_, cr_allH hc, bools_ok fun H Q a bs h q => ⟨a, bs, rfl, h, q⟩⟩
theorem c_anyH (hc : HotC X) : CallM X (.builtin "any") anyM := ⟨_, cr_anyH hc, bools_ok fun H Q a bs h q => ⟨a, bs, rfl, h, q⟩⟩
end
end Z
/-! Defs called while an exception is handled. -/
namespace Z
open PySem PySem.Spec PyProof.Rows L2 L2H HotX
/-- the context bears the handled exception, of which Zp is known -/
def HotZ (X : Cx) (Zp : Addr × Obj → Prop) : Prop := ∃ p : Addr × Obj, Hot1 X.A p ∧ Zp p ∧ p ∈ X.pn
theorem HotZ.hot {X : Cx} {Zp : Addr × Obj → Prop} (h : HotZ X Zp) : HotC X := let ⟨p, a, _, b⟩ := h; ⟨p, a, b⟩
/-- what a def promises there -/
structure FnGH (P : Program) (w : World) (K : PySem.W.Frag) (mg : Str → Option Value) (base : Heap) (Zp : Addr × Obj → Prop) (k : Nat) (f : Addr) (fd : FuncData) (ps : List Str) (sp : Sp) : Prop where
  few : ∀ vs H Q E, sp vs H Q E → vs.length = ps.length
  go : ∀ (A : Around) (outer : List Env) (s : Shared) (H : Hp) (args : Args) (us : List Value) (vs : List V) (Q : VK) (E : XK) (p : Addr × Obj), RoomH k A → A.guards = some [] → Hot1 A p → Zp p → PinOk outer H s p → Env0 P w K mg base A outer s H →
    BindsTo s fd args (ps.zip us) → Vals vs us → sp vs H Q E → codeAny (model P w) A (.call (.ref f) args) (CR (L2N.CX P w) outer P w H s Q E) s
section
variable {P : Program} {w : World} {K : PySem.W.Frag} {mg : Str → Option Value} {base : Heap} {k : Nat} {f : Addr} {fd : FuncData} {ps N : List Str} {sp : Sp} {Zp : Addr × Obj → Prop}
theorem FnGH.up {j : Nat} (F : FnGH P w K mg base Zp j f fd ps sp) (h : j ≤ k) : FnGH P w K mg base Zp k f fd ps sp :=
  ⟨F.few, fun A outer s H args us vs Q E p hr => F.go A outer s H args us vs Q E p (hr.mono h)⟩
theorem fnGH_of {x qual : Str} {params : Arguments} {body : List Stmt} {scope : Scope} {dvs : List V} {kws : List (Str × V)} (F : FunD K x qual params body scope dvs kws f fd) (S : FnScope N ps scope)
    (few : ∀ vs H Q E, sp vs H Q E → vs.length = ps.length)
    (hb : ∀ (cdv : Value) (A : Around) (outer : List Env) (s : Shared) (H : Hp) (vs : List V) (Q : VK) (E : XK) (p : Addr × Obj), Hot1 A p → Zp p → RoomH k (A.deeper (envOfC qual scope s.heap.objs.size f cdv)) → A.guards = some [] → sp vs H Q E →
      ∃ t, PSs (cxH (L2N.CX P w) P w K mg base N qual scope f cdv A outer s H E p) body t ∧ t { nx := fun _ H' => Q .non H', rt := Q } (L2.start N vs) H) : FnGH P w K mg base Zp (k + 1) f fd ps sp := by
  obtain ⟨oc, od, dV, kV, doc, pm, an, cd, ct, osl, rfl, lk, hcd, _, _⟩ := F.ex
  refine ⟨few, fun A outer s H args us vs Q E p room hgd hot hz pin e0 bind rel want => ?_⟩
  have kx : K.In s.heap := e0.mod.kin.keeps fun b o e => (e0.bs b o e).1
  have nolim : s.heap.NoLimit := e0.mod.nolimit.keeps fun b o e => (e0.bs b o e).1
  have kinds : ∀ y ∈ ps.zip us, scope.names.lookup y.1 = some .local ∨ (scope.names.lookup y.1 = some .cell ∧ ((cellsFrom (s.heap.objs.size + 1) scope.names []).lookup y.1).isSome = true) := by
    rintro ⟨n, v⟩ hy
    exact (S.par n (List.of_mem_zip hy).1).elim .inl fun q => .inr ⟨q, PySem.W.cellsFrom_some _ _ _ (.inl q)⟩
  refine codeAny_call_function room.depth (kx _ _ lk) rfl S.co S.gen rfl (PySem.W.codeRec_of kx hcd) (bind _ _ _ _ ?_)
  refine wpAny_newFunctionEnv_cells S.kind kinds fun env hen s1 z => ?_
  subst hen
  refine ⟨nolim.keeps z.toInCall.keep, codeAny_func ?_⟩
  obtain ⟨t, ht, hq⟩ := hb cd A outer s H vs Q E p hot hz (room.deeper _) hgd want
  have inv : L2.Inv (cxH (L2N.CX P w) P w K mg base N qual scope f cd A outer s H E p) [] (L2.start N vs) H s1 := inv_startH S pin e0 (few _ _ _ _ want) rel z
  refine wpAny_mono (ht.run [] s1 (L2.start N vs) H _ inv hq) (fun fl s' done => ?_) fun e s' done => done
  cases fl with
  | ret u => obtain ⟨v, σ', H', J, rv, q⟩ := done; exact ⟨v, H', J.os, J.bare, J.base, J.hok, rv, q⟩
  | next => obtain ⟨σ', H', J, q⟩ := done; exact ⟨V.non, H', J.os, J.bare, J.base, J.hok, rfl, q⟩
  | brk => obtain ⟨_, _, _, q⟩ := done; exact q.elim
  | cont => obtain ⟨_, _, _, q⟩ := done; exact q.elim
end
abbrev FMH (P : Program) (w : World) (K : PySem.W.Frag) (mg : Str → Option Value) (base : Heap) (Zp : Addr × Obj → Prop) (k : Nat) (f : Addr) (fd : FuncData) (ps : List Str) (F : List W → M W) : Prop := FnGH P w K mg base Zp k f fd ps (spM K ps.length F)
theorem fmH_of {Zp : Addr × Obj → Prop} {P : Program} {w : World} {K : PySem.W.Frag} {mg : Str → Option Value} {base : Heap} {k : Nat} {f : Addr} {fd : FuncData} {ps N : List Str} {m : MS} {x qual : Str} {params : Arguments} {body : List Stmt} {scope : Scope} {dvs : List V} {kws : List (Str × V)}
    (F : FunD K x qual params body scope dvs kws f fd) (S : FnScope N ps scope)
    (hb : ∀ (cdv : Value) (A : Around) (outer : List Env) (s : Shared) (H : Hp) (E : XK) (p : Addr × Obj), HotZ (cxH (L2N.CX P w) P w K mg base N qual scope f cdv A outer s H E p) Zp → RoomH k (A.deeper (envOfC qual scope s.heap.objs.size f cdv)) → A.guards = some [] →
      PSsm (cxH (L2N.CX P w) P w K mg base N qual scope f cdv A outer s H E p) (fun cls d _ H' => E cls d H') body m) : FMH P w K mg base Zp (k + 1) f fd ps (runB N.length m) := by
  refine fnGH_of F S (fun vs H Q E h => h.1) fun cdv A outer s H vs Q E p hot hz hr hg h => ⟨_, (hb cdv A outer s H E p ⟨p, hot, hz, List.mem_singleton_self _⟩ hr hg).ps, ?_⟩
  obtain ⟨hl, ι, ws, AH, r, sr, h⟩ := h
  refine ⟨ι, _, AH, start_re r, sr, ?_⟩
  unfold runB at h
  match hm : m (ws.map some ++ List.replicate (N.length - ws.length) none) AH, h with
  | some (.ok (.rt u), e', h'), h => exact h
  | some (.ok .nx, e', h'), h => exact fun ι' σ' H' l s' _ => h ι' .non H' l s' (show V.non = .non from rfl)
  | some (.error y, e', h'), h => exact fun ι' σ' d H' l s' _ xr => h ι' d H' l s' xr
section
variable {X : Cx} {Zp : Addr × Obj → Prop} {Wx : WX} {k n : Nat} {f : Addr} {fd : FuncData} {ps : List Str} {sp : Sp} {F : List W → M W} {p pos : Pos} {e : Expr} {es : List Expr} {x : Str} {ma : ME (List W)} {pins : List (Addr × Obj)} {σ : L2.St} {H : Hp} {s : Shared} {Q : VK}
theorem call_GH (F : FnGH X.prog X.w X.K X.mg X.base Zp k f fd ps sp) (hr : RoomH k X.A) (hg : X.A.guards = some []) (hc : HotZ X Zp) (tk : L2N.Takes X Wx) (I : L2.Inv X pins σ H s) {us us2 : List Value} {kw : List (Str × Value)} {vs : List V} (b : BindsTo s fd ⟨us, kw⟩ (ps.zip us2)) (r : Vals vs us2) (h : sp vs H Q (WE Wx σ)) :
    wpAny (model X.prog X.w) X.A (call (.ref f) us kw) (EP X pins σ Q) X.xe s := by
  obtain ⟨p, hot, hz, hp⟩ := hc
  obtain ⟨g, fr, nl, nf, nc⟩ := I.pin p (List.mem_append_left _ hp)
  refine wpAny_call (codeAny_mono (F.go X.A X.stack s H ⟨us, kw⟩ us2 vs Q (WE Wx σ) p hr hg hot hz ⟨g, fr, fun m => (List.mem_cons.mp (I.stkSub p.1 m)).elim nl nf, nc⟩ I.env0 b r h) fun r s' q => ?_)
  cases r with
  | error e => exact L2N.passAt tk σ pins H s e s' I q
  | ok fl =>
    cases fl with
    | ret u => exact I.after q
    | _ => exact q.elim
theorem m_callH (G : FMH X.prog X.w X.K X.mg X.base Zp k f fd ps F) (hr : RoomH k X.A) (hG : X.A.guards = some []) (hc : HotZ X Zp) (tk : L2N.Takes X Wx) (hg : Gl X x) (hm : X.mg x = some (.ref f)) (hk : PySem.W.keepIn X.K (.ref f) = true) (hb : Binds X.K fd ps [])
    (ha : PAm X Wx (e :: es) ma) (hdb : (x == ("__debug__" : Str)) = false := by decide) (he : starEach (e :: es) X.env = (false, eval e X.env) :: starEach es X.env := by rfl) (hpl : (backTo pos (starEach es X.env)).any (·.1) = false := by rfl)  (hn : ps.length = n := by rfl) :
    PEm X Wx (.Call (.Name x p) (e :: es) [] pos) (mF n F ma) := by
  subst hn
  refine ⟨⟨fun pins s σ H Q I h => ?_⟩⟩
  refine wpAny_Call_Name_kw (ld_glob I hg hm ?_ hdb)
  refine PySem.W.callWith_K (h₀ := X.base) I.ok.mod.kin hk (thn (ha.pa.run pos pins s σ H _ I (tG_bnd (Q' := fun vs H1 => spM X.K ps.length F vs H1 Q (WE Wx σ)) h fun ι1 ws AH1 vs H1 e re s1 r1 q => ?_)) fun us s1 z => ?_) he hpl
  · obtain ⟨c, q⟩ := out_ite q
    exact ⟨by rw [← r1.length]; exact c, ι1, ws, AH1, r1, s1, q⟩
  · obtain ⟨vs, H1, I1, r, q⟩ := z
    refine ⟨I1.kIn, call_GH G hr hG hc tk I1 (us2 := us) ?_ r q⟩
    have b := hb s1 us I1.kIn (by rw [List.append_nil, ← r.length]; exact q.1)
    rw [List.append_nil] at b
    exact b
end
end Z
/-! isinstance of the exception that is handled. -/
namespace Z
open PySem PySem.Spec PyProof.Rows L2 L2H HotX
/-- at a stands an instance of D, without a dict of its own -/
def ExAt (a D : Addr) (p : Addr × Obj) : Prop := p.1 = a ∧ p.2.cls = .ref D ∧ p.2.dict = none
theorem call_isEH {X : Cx} {a D : Addr} (C : ExcC X.K D) (hc : HotZ X (ExAt a D)) : CallR X (.builtin "isinstance") (rIsE X.K D a) := fun pins s σ H xs us Q I r ⟨c, cv, b, ex, hcv, e, q⟩ => by
  subst ex
  obtain ⟨⟨a', oc, od, oda, osl⟩, ⟨_, vs, hv, _⟩, ⟨ea, h1, h2⟩, hp⟩ := hc
  dsimp only at ea h1 h2 hv
  subst ea h1 h2 hv
  cases r with
  | cons rx rr =>
    cases rr with
    | cons rt rr =>
      cases rr
      obtain rfl := (show _ = Value.ref a' from rx)
      obtain rfl := hcv _ rt
      have J : PySem.W.InstAt s.heap a' ⟨.ref D, none, .fields vs, osl⟩ D none := ⟨(I.pin _ (List.mem_append_left _ hp)).1, rfl, rfl, trivial⟩
      exact PySem.W.kia_one (PySem.W.handS_kitx_exc C.hg C.hk C.hs C.hd C.ha C.hn C.ht C.hm) I.kIn J e (fun z => nomatch z) fun tk => ⟨.bl b, H, I.kept (t' := tk) fun _ _ z => z, rfl, q⟩
/-- isinstance(e, c): by a table -/
noncomputable def isEM (isi : Value → Value → Option Bool) (a D : Addr) : List W → M W := two fun w c h => match w, clsW c with
  | .gl b, some u => if b = a then (match isi (.ref D) u with
    | some r => some (.ok (.bl r), h)
    | none => none) else none
  | _, _ => none
theorem c_isE {X : Cx} {a D : Addr} {isi : Value → Value → Option Bool} (C : ExcC X.K D) (hc : HotZ X (ExAt a D)) (hk : ∀ u r, isi (.ref D) u = some r → PySem.W.kitOne X.K (.ref D) u = some r) : CallM X (.builtin "isinstance") (isEM isi a D) := ⟨_, call_isEH C hc, two_ok fun Xx ι AH H w u v v' Q s r r' o => by
  cases w with
  | gl b =>
    cases e2 : clsW u with
    | none => simp only [e2] at o; exact o.elim
    | some cv =>
      simp only [e2] at o
      by_cases c : b = a
      · rw [if_pos c] at o
        subst c
        cases e3 : isi (.ref D) cv with
        | none => simp only [e3] at o; exact o.elim
        | some k =>
          simp only [e3] at o
          obtain rfl := (show v = V.ref b from r)
          refine ⟨v', cv, k, rfl, fun z rz => ?_, hk _ _ e3, o ι _ H Le.refl s rfl⟩
          cases u with
          | ty n => cases e2; obtain rfl := (show v' = V.ty n from r'); exact rz
          | gl c => cases e2; obtain rfl := (show v' = V.ref c from r'); exact rz
          | _ => cases e2
      · rw [if_neg c] at o; exact o.elim
  | _ => exact o.elim⟩
end Z
/-! raise of an own class, with a text. -/
namespace Z
open PySem PySem.Spec PyProof.Rows L2 L2H HotX
def sRaise (C : Addr) : MS := fun e h => some (.error ⟨.ref C, none⟩, e, h)
section
variable {X : Cx} {Wx : WX} {C : Addr} {bmB : List Value} {B newId initId : String} {x m : Str} {j : Nat} {p p2 pos pos' : Pos}
/-- what an own exception class bears -/
structure ExcK (K : PySem.W.Frag) (C : Addr) (bmB : List Value) (newId : String) : Prop where
  is : PySem.W.excIn K C bmB newId = true
  kp : PySem.W.keepIn K (.ref C) = true
  sb : PySem.W.subIn K (.ref C) (.type "BaseException") = some true
  ty : PySem.W.typeIn K (.ref C) = some (.type "type")
def excKB (K : PySem.W.Frag) (C : Addr) (bmB : List Value) (newId : String) : Bool := (PySem.W.excIn K C bmB newId && PySem.W.keepIn K (.ref C)) && (decide (PySem.W.subIn K (.ref C) (.type "BaseException") = some true) && decide (PySem.W.typeIn K (.ref C) = some (.type "type")))
theorem excK_of {K : PySem.W.Frag} (h : excKB K C bmB newId = true) : ExcK K C bmB newId := by
  unfold excKB at h
  simp only [Bool.and_eq_true, decide_eq_true_eq] at h
  exact ⟨h.1.1, h.1.2, h.2.1, h.2.2⟩
theorem s_raise (F : ExcBaseFacts B newId initId bmB) (k : ExcK X.K C bmB newId) (hc : X.calm = true) (tk : L2N.Takes X Wx) (gC : X.mg x = some (.ref C)) (hg : Gl X x) (hdb : (x == ("__debug__" : Str)) = false := by decide) :
    PSm X Wx (.Raise (some (.Call (.Name x p) [.Constant (.str m) j p2] [] pos')) none pos) (sRaise C) :=
  ⟨PS_imp (L2N.ps_raise hc tk (L2N.pmk_own F k.is gC k.kp (raises_own k.sb k.ty) hg hdb)) fun D σ H ⟨ι, e, AH, re, s, h⟩ => h ι σ none H Le.refl s re rfl⟩
end
end Z
/-! try: body, except C as n: suite. -/
namespace Z
open PySem PySem.Spec PyProof.Rows L2 L2H HotX
def eraS (i : Nat) : Option (Except AX Fl × Ev × Hv) → Option (Except AX Fl × Ev × Hv)
  | some (.ok f, e, h) => some (.ok f, e.set i none, h)
  | _ => none
open Classical in
/-- the suite is told where the exception stands and its class; what comes of it is alike for all places -/
noncomputable def sTry (i : Nat) (exm : Value → Option Bool) (mb : MS) (ms : Addr → Addr → MS) : MS := fun e h => match mb e h with
  | some (.error ⟨.ref D, none⟩, e1, h1) => (match exm (.ref D) with
    | some true => if hh : ∃ r, ∀ a, eraS i (ms a D (e1.set i (some (.gl a))) h1) = r then hh.choose else none
    | some false => some (.error ⟨.ref D, none⟩, e1, h1)
    | none => none)
  | some (.ok f, e1, h1) => some (.ok f, e1, h1)
  | _ => none
theorem RE.era {K : PySem.W.Frag} {ι : List Addr} {H : Hp} {e : Ev} {σ : L2.St} (r : RE K ι H e σ) (i : Nat) : RE K ι H (e.set i none) (σ.set i none) := by
  refine ⟨by simp [r.1], fun j w q => ?_⟩
  by_cases c : i = j
  · subst c
    by_cases hl : i < e.length
    · rw [List.getElem?_set_self hl] at q; cases q
    · rw [List.getElem?_eq_none (by simpa using hl)] at q; cases q
  · rw [List.getElem?_set_ne c] at q ⊢
    exact r.2 j w q
section
variable {X : Cx} {Wx : WX} {x n : Str} {c : Value} {i : Nat} {body suite : List Stmt} {b₀ : Stmt} {np pos pos' : Pos} {exm : Value → Option Bool} {mb : MS} {ms : Addr → Addr → MS}
def tSu (K : PySem.W.Frag) (ms : Addr → Addr → MS) (a : Addr) (cls : Value) (d : Option Addr) : TS := match cls, d with
  | .ref D, none => tS K WF (ms a D)
  | _, _ => fun _ _ _ => False
theorem t_try (hx : ∀ cls b, exm cls = some b → PySem.W.exmOne X.K cls c = some b) (D : Ends) (σ : L2.St) (H : Hp) (h : tS X.K Wx (sTry i exm mb ms) D σ H) : tS X.K (wAs X.K c i (tSu X.K ms) Wx D) mb D σ H := by
  obtain ⟨ι, e, AH, re, s, o⟩ := h
  refine ⟨ι, e, AH, re, s, ?_⟩
  unfold sTry at o
  match hm : mb e AH, o with
  | some (.ok .nx, e1, h1), o => exact o
  | some (.ok (.rt w), e1, h1), o => exact o
  | some (.ok .bk, e1, h1), o => exact o
  | some (.ok .ct, e1, h1), o => exact o
  | some (.error ⟨.ref D', none⟩, e1, h1), o =>
    intro ι' σ' d H' l s' re' xr
    obtain rfl : d = none := xr
    simp only at o
    cases he : exm (.ref D') with
    | none => simp only [he] at o; exact o.elim
    | some b =>
      cases b with
      | false => simp only [he] at o; exact ⟨false, hx _ _ he, nofun, fun _ => o ι' σ' none H' l s' re' rfl⟩
      | true =>
        simp only [he] at o
        refine ⟨true, hx _ _ he, fun _ a na => ?_, nofun⟩
        refine ⟨ι', e1.set i (some (.gl a)), h1, re'.set (show RW X.K ι' H' (.gl a) (.ref a) from rfl), s', ?_⟩
        by_cases hh : ∃ r, ∀ a, eraS i (ms a D' (e1.set i (some (.gl a))) h1) = r
        · rw [dif_pos hh, ← hh.choose_spec a] at o
          match hs : ms a D' (e1.set i (some (.gl a))) h1, o with
          | some (.ok .nx, e2, h2), o => exact fun ι2 σ2 H2 l2 s2 re2 => o ι2 _ H2 (l.trans l2) s2 (re2.era i)
          | some (.ok .bk, e2, h2), o => exact fun ι2 σ2 H2 l2 s2 re2 => o ι2 _ H2 (l.trans l2) s2 (re2.era i)
          | some (.ok .ct, e2, h2), o => exact fun ι2 σ2 H2 l2 s2 re2 => o ι2 _ H2 (l.trans l2) s2 (re2.era i)
          | some (.ok (.rt w), e2, h2), o => exact fun ι2 v H2 l2 s2 rv => o ι2 v H2 (l.trans l2) s2 rv
        · rw [dif_neg hh] at o; exact o.elim
theorem s_try (hs : X.stack = X.env :: X.outer) (hf : X.env.frame = some X.env.locals) (hN : X.N.Nodup) (hi : X.N[i]? = some n) (hln : X.env.kindOf n = some .local) (hc : Names X x c) (tk : L2N.Takes X Wx) (hx : ∀ cls b, exm cls = some b → PySem.W.exmOne X.K cls c = some b)
    (hb : ∀ (W' : WX) (pn : List (Addr × Obj)) (xe : Value → Shared → Prop), L2N.Takes (X.tr pn xe) W' → PassesOwn (model X.prog X.w) X.A X.env xe → PSsm (X.tr pn xe) W' body mb)
    (hsu : ∀ (a D : Addr) (oe : Obj) (pn : List (Addr × Obj)), HotZ (X.suite a ((a, oe) :: pn)) (ExAt a D) → PSsm (X.suite a ((a, oe) :: pn)) WF (b₀ :: suite) (ms a D)) :
    PSm X Wx (.Try body [.ExceptHandler (some (.Name x np)) (some n) (b₀ :: suite) pos'] [] [] pos) (sTry i exm mb ms) :=
  ⟨PS_imp (L2N.ps_try_as (tb := fun W' => tS X.K W' mb) (ts := tSu X.K ms) hs hf hN hi hln hc tk (fun W' pn xe t p => (hb W' pn xe t p).ps) fun a oe cls d pn z ⟨vs, hv⟩ => by
    by_cases k : ∃ D, cls = .ref D ∧ d = none
    · obtain ⟨D, rfl, rfl⟩ := k
      exact (hsu a D oe pn ⟨(a, oe), ⟨rfl, vs, hv, z.2.2 vs hv⟩, ⟨rfl, z.1, z.2.1⟩, List.mem_cons_self⟩).ps
    · have e : tSu X.K ms a cls d = fun _ _ _ => False := by
        unfold tSu
        split
        · exact absurd ⟨_, rfl, rfl⟩ k
        · rfl
      rw [e]
      exact ⟨fun _ _ _ _ _ _ h => h.elim⟩) fun D σ H h => t_try hx D σ H h⟩
end
end Z
/-! While an exception is handled: zip, max of two; isinstance of the exception by a table; small words. -/
namespace L2H
open PySem L2
theorem RoomH.units {k : Nat} {A : Around} (r : RoomH k A) : A.units + 64 < cLine := by have := r.un; omega
theorem RoomH.units0 {k : Nat} {A : Around} (r : RoomH k A) : A.units < cLine := by have := r.un; omega
end L2H
namespace HotX
open PySem PySem.Spec PyProof.Rows L2
section
variable {prog : Program} {w : World} {A : Around} {E : Value → Shared → Prop} {s : Shared}
theorem nextOf_list_end_hot {it l x1 : Addr} {i : Nat} {items : Array Value} {Q : Value → Shared → Prop} (hot : HotAt A.in1 x1 s.heap) (ne : it ≠ x1) (hit : s.heap.IsListIter it l i) (hl : s.heap.IsList l items) (hx : items[i]? = none)
    (hE : ∀ h' e, Heap.ExtBut it s.heap h' → (∃ o, h'.get? e = some o ∧ o.cls = .type "StopIteration") → E (.ref e) { s with heap := h' }) :
    wpAny (model prog w) A (Builtin.SmallTypes.nextOf (.ref it)) Q E s := by
  obtain ⟨o, ho, hc, hd⟩ := id hit
  obtain ⟨ol, hol, _, nl, hdl⟩ := hl
  unfold Builtin.SmallTypes.nextOf
  refine wpAny_bind (wpAny_callSpecial?_slot (name := Str.ofString "__next__") hit.typeIs slot_listiter_next (wpAny_call_entry slot_listiter_next hit.typeIs entry_listiter_next ?_ (args_listiter_next _)))
  show wpAny _ _ (field (.ref it) 0 >>= _) _ _ s; refine wpAny_bind (wpAny_field ho hd (x := .ref l) rfl ?_)
  show wpAny _ _ (if (Value.ref l == Value.none) = true then _ else _) _ _ s; rw [if_neg (show ¬ ((Value.ref l == Value.none) = true) from Bool.false_ne_true)]
  show wpAny _ _ (field (.ref it) 1 >>= _) _ _ s; refine wpAny_bind (wpAny_field ho hd (x := .int i 0) rfl ?_)
  show wpAny _ _ (seqItems? (.ref l) >>= _) _ _ s; refine wpAny_bind (wpAny_seqItems hol hdl ?_); simp only [Int.toNat_natCast, hx]
  refine wpAny_bind (wpAny_rule (wpAny_bind (wpAny_setField ho hd (by simp) ?_)))
  exact stop_hot (hot_upd hot ne) fun a h' keep ex => hE _ _ (fun b ob hb e => keep b ob ((Heap.get?_update_other _ _ (Ne.symm hb)).trans e)) ex
theorem hot_keep {x1 : Addr} {h h' : Heap} (hot : HotAt A x1 h) (k : ∀ o, h.get? x1 = some o → h'.get? x1 = some o) : HotAt A x1 h' := by
  obtain ⟨hh, o1, vs1, h1, d1, c1⟩ := hot
  exact ⟨hh, o1, vs1, k _ h1, d1, c1⟩
theorem zip_next_end_hot {z TI TO i1 i2 l1 l2 x1 : Addr} {k1 k2 : Nat} {xs ys : Array Value} {a b : Value} {Q : Fin → Shared → Prop} (hot : HotAt A.in1 x1 s.heap) (nz : z ≠ x1) (nO : TO ≠ x1) (n1 : i1 ≠ x1) (n2 : i2 ≠ x1) (D : ZipApart z TI TO i1 i2 l1 l2)
    (hz : IsZip s.heap z TI TO .none) (hTI : IsPair s.heap TI (.ref i1) (.ref i2)) (hTO : IsPair s.heap TO a b)
    (h1 : s.heap.IsListIter i1 l1 k1) (h2 : s.heap.IsListIter i2 l2 k2) (hl1 : s.heap.IsList l1 xs) (hl2 : s.heap.IsList l2 ys) (hend : xs[k1]? = none ∨ ys[k2]? = none)
    (hE : ∀ h' e, (∀ c o, c ≠ z → c ≠ TO → c ≠ i1 → c ≠ i2 → s.heap.get? c = some o → h'.get? c = some o) → (∃ o, h'.get? e = some o ∧ o.cls = .type "StopIteration") → E (.ref e) { s with heap := h' }) :
    wpAny (model prog w) A (Builtin.«zip.__next__» ⟨[.ref z], []⟩) Q E s := by
  show wpAny _ _ (field (.ref z) 2 >>= _) _ _ _
  refine wpAny_bind (wpAny_field hz rfl (x := .bool false) rfl ?_)
  show wpAny _ _ (field (.ref z) 3 >>= _) _ _ _
  refine wpAny_bind (wpAny_field hz rfl (x := .ref TI) rfl ?_)
  refine wpAny_bind (wpAny_seqItems hTI rfl ?_)
  show wpAny _ _ (Builtin.SmallTypes.ownedTupleIsFree (.ref z) >>= _) _ _ _
  refine wpAny_bind ?_
  unfold Builtin.SmallTypes.ownedTupleIsFree
  refine wpAny_bind (wpAny_field hz rfl (x := .none) rfl (wpAny_pure ?_))
  simp only [if_true]
  refine wpAny_bind (wpAny_rule ?_)
  refine wpAny_bind (wpAny_field hz rfl (x := .ref TO) rfl ?_)
  refine wpAny_bind (wpAny_setField_rec hz (by simp) fun h₁ hz₁ hs₁ => ?_)
  replace hz₁ : IsZip h₁ z TI TO .ellipsis := hz₁
  have hot1 : HotAt A.in1 x1 h₁ := hot_keep hot fun o e => hs₁.extBut _ _ nz.symm e
  refine wpAny_bind ?_
  simp only [List.zipIdx_cons, List.zipIdx_nil, List.forIn_cons, List.forIn_nil]
  refine wpAny_bind (wpAny_bind (wpAny_onRaise ?_))
  show wpAny _ _ (Builtin.SmallTypes.nextOf (.ref i1) >>= _) _ _ _
  cases hx : xs[k1]? with
  | none =>
    refine wpAny_bind (nextOf_list_end_hot (A := A) hot1 n1 (h1.extBut hs₁.extBut D.i1z) (hl1.extBut hs₁.extBut D.l1z) hx fun h₂ e hs₂ he => ?_)
    obtain ⟨oe, hoe, hce⟩ := he
    have hz₂ : IsZip h₂ z TI TO .ellipsis := hs₂ _ _ D.i1z.symm hz₁
    have hez : e ≠ z := fun x => by subst x; rw [hz₂] at hoe; cases hoe; simp at hce
    refine wpAny_setField_rec hz₂ (by simp) fun h₃ _ hs₃ => hE h₃ e (fun c o c1 _ c3 _ x => hs₃.extBut _ _ c1 (hs₂ _ _ c3 (hs₁.extBut _ _ c1 x))) ⟨oe, hs₃.extBut _ _ hez hoe, hce⟩
  | some x =>
    have hy : ys[k2]? = none := by rcases hend with h | h; rw [hx] at h; cases h; exact h
    refine wpAny_bind (wpAny_nextOf_list_item (h1.extBut hs₁.extBut D.i1z) (hl1.extBut hs₁.extBut D.l1z) hx fun h₂ h1₂ hs₂ => wpAny_pure ?_)
    have hTO₂ : IsPair h₂ TO a b := hs₂.extBut _ _ D.TOi1 (hs₁.extBut _ _ D.TOz hTO)
    refine wpAny_bind (wpAny_seqItems hTO₂ rfl ?_)
    refine wpAny_bind (wpAny_updateSeq_pair hTO₂ fun h₃ hTO₃ hs₃ => ?_)
    refine wpAny_bind (wpAny_letGo (wpAny_pure ?_))
    refine wpAny_bind (wpAny_bind (wpAny_onRaise ?_))
    show wpAny _ _ (Builtin.SmallTypes.nextOf (.ref i2) >>= _) _ _ _
    have hot3 : HotAt A.in1 x1 h₃ := hot_keep hot1 fun o e => hs₃.extBut _ _ nO.symm (hs₂.extBut _ _ n1.symm e)
    refine wpAny_bind (nextOf_list_end_hot (A := A) hot3 n2 (((h2.extBut hs₁.extBut D.i2z).extBut hs₂.extBut D.i12.symm).extBut hs₃.extBut D.TOi2.symm)
      (((hl2.extBut hs₁.extBut D.l2z).extBut hs₂.extBut D.l2i1).extBut hs₃.extBut D.l2TO) hy fun h₄ e hs₄ he => ?_)
    obtain ⟨oe, hoe, hce⟩ := he
    have hz₄ : IsZip h₄ z TI TO .ellipsis := hs₄ _ _ D.i2z.symm (hs₃.extBut _ _ D.TOz.symm (hs₂.extBut _ _ D.i1z.symm hz₁))
    have hez : e ≠ z := fun x => by subst x; rw [hz₄] at hoe; cases hoe; simp at hce
    refine wpAny_setField_rec hz₄ (by simp) fun h₅ _ hs₅ => hE h₅ e (fun c o c1 c2 c3 c4 x => hs₅.extBut _ _ c1 (hs₄ _ _ c4 (hs₃.extBut _ _ c2 (hs₂.extBut _ _ c3 (hs₁.extBut _ _ c1 x))))) ⟨oe, hs₅.extBut _ _ hez hoe, hce⟩
theorem pyNext_zip_end_hot {z TI TO i1 i2 l1 l2 x1 : Addr} {k1 k2 : Nat} {xs ys : Array Value} {a b : Value} {Q : Option Value → Shared → Prop} (hot : HotAt A.in1 x1 s.heap) (nz : z ≠ x1) (nO : TO ≠ x1) (n1 : i1 ≠ x1) (n2 : i2 ≠ x1) (D : ZipApart z TI TO i1 i2 l1 l2)
    (hz : IsZip s.heap z TI TO .none) (hTI : IsPair s.heap TI (.ref i1) (.ref i2)) (hTO : IsPair s.heap TO a b)
    (h1 : s.heap.IsListIter i1 l1 k1) (h2 : s.heap.IsListIter i2 l2 k2) (hl1 : s.heap.IsList l1 xs) (hl2 : s.heap.IsList l2 ys) (hend : xs[k1]? = none ∨ ys[k2]? = none)
    (hQ : ∀ h', (∀ c o, c ≠ z → c ≠ TO → c ≠ i1 → c ≠ i2 → s.heap.get? c = some o → h'.get? c = some o) → Q none { s with heap := h' }) : wpAny (model prog w) A (pyNext (.ref z)) Q E s := by
  have hT : s.TypeIs (.ref z) "zip" := ⟨_, hz, rfl⟩
  unfold pyNext
  refine wpAny_bind (wpAny_attempt (wpAny_callSpecial?_slot (name := Str.ofString "__next__") hT F.slot_zip_next
    (wpAny_call_entry F.slot_zip_next hT F.entry_zip_next (zip_next_end_hot (A := A.in1) hot nz nO n1 n2 D hz hTI hTO h1 h2 hl1 hl2 hend fun h' e hk he => ?_) (F.args_zip_next_1 _))))
  obtain ⟨o, ho, hc⟩ := he
  refine wpAny_bind (wpAny_isInstance (T := "StopIteration") (b := true) ⟨o, ho, hc⟩ isSubtype_stop ?_)
  exact wpAny_pure (hQ _ hk)
end
end HotX
namespace Z
open PySem PySem.Spec PyProof.Rows L2 L2H HotX
/-! ### zip -/
theorem turn_zipH {P : Program} {w : World} {K : PySem.W.Frag} {elts : List Expr} {kk : Nat} {tpos : Pos} {a b z TI TO i1 i2 : Addr} (D : ZipApart z TI TO i1 i2 a b) :
    TurnH P w K (.Tuple elts kk tpos) (Itz K a b) [z, TI, TO, i1, i2] z (fun i h => IsZip h z TI TO .none ∧ IsPair h TI (.ref i1) (.ref i2) ∧ (∃ x y, IsPair h TO x y) ∧ h.IsListIter i1 a i ∧ h.IsListIter i2 b i) where
  mem := (turn_zip (P := P) (w := w) (K := K) (elts := elts) (kk := kk) (tpos := tpos) D).mem
  obj := (turn_zip (P := P) (w := w) (K := K) (elts := elts) (kk := kk) (tpos := tpos) D).obj
  keep := (turn_zip (P := P) (w := w) (K := K) (elts := elts) (kk := kk) (tpos := tpos) D).keep
  self := (turn_zip (P := P) (w := w) (K := K) (elts := elts) (kk := kk) (tpos := tpos) D).self
  item := by
    intro X hP hw hK hc i pins s σ H E I hf st hg
    subst hP hw hK
    obtain ⟨hz, hTI, ⟨x0, y0, hTO⟩, h1, h2⟩ := st
    obtain ⟨xs, ys, x, y, hqx, hqy, hx, hy⟩ := hg
    obtain ⟨its, rv, p, _⟩ := I.list hqx
    obtain ⟨its2, rv2, p2, _⟩ := I.list hqy
    obtain ⟨u, hu, ru⟩ := rv.get hx
    obtain ⟨u2, hu2, ru2⟩ := rv2.get hy
    have hzl : z < s.heap.objs.size := Heap.lt_size hz
    refine wpAny_pyNext_zip_item D hz hTI hTO h1 h2 p.isList p2.isList (x := u) (y := u2) (by simpa using hu) (by simpa using hu2) fun h' z' TO' h1' h2' hT hsz hk => ?_
    refine ⟨_, rfl, wpAny_letOwnedTupleGo_zip (s := { s with heap := h' }) z' fun h'' z'' sb => ?_⟩
    have hT2 : h''.get? s.heap.objs.size = some { cls := .type "tuple", data := .seq #[u, u2] } := (sb.2 _ (Nat.ne_of_gt hzl)).trans hT
    have new : ObjOk X.prog X.w (upd H s.heap.objs.size (.tup [x, y])) h'' s.heap.objs.size (.tup [x, y]) :=
      ⟨by show 2 ≤ sizeLine; decide, [u, u2], .cons ru (.cons ru2 .nil), ⟨_, hT2, rfl, _, rfl⟩⟩
    have I1 : L2.Inv X pins σ (upd H s.heap.objs.size (.tup [x, y])) { s with heap := h'' } :=
      I.turnedNew (t' := s.toks) (ch := [z, TI, TO, i1, i2]) (fun c o hb q => (sb.2 c (fun q' => hb (by simp [q']))).trans (hk c o (fun q' => hb (by simp [q'])) (fun q' => hb (by simp [q'])) (fun q' => hb (by simp [q'])) (fun q' => hb (by simp [q'])) q)) hf (Nat.le_refl _) new
    refine ⟨.ref s.heap.objs.size, _, I1, rfl, ⟨_, x, y, rfl, I.hok.fresh (Nat.le_refl _), rfl, fun l hl => by rw [I.list_inj hl hqx]; exact hx, fun l hl => by rw [I.list_inj hl hqy]; exact hy⟩, ⟨z'', ?_, ⟨u, u2, ?_⟩, ?_, ?_⟩, fun c hcm => ?_⟩
    · exact (sb.2 _ D.TIz).trans (hk _ _ D.TIz D.TITO D.TIi1 D.TIi2 hTI)
    · exact (sb.2 _ D.TOz).trans TO'
    · exact h1'.at fun o q => (sb.2 _ D.i1z).trans q
    · exact h2'.at fun o q => (sb.2 _ D.i2z).trans q
    · have hlt : c < s.heap.objs.size := by
        have e' : c = z ∨ c = TI ∨ c = TO ∨ c = i1 ∨ c = i2 := by simpa using hcm
        rcases e' with q | q | q | q | q
        · rw [q]; exact hzl
        · rw [q]; exact Heap.lt_size hTI
        · rw [q]; exact Heap.lt_size hTO
        · rw [q]; obtain ⟨_, e1, _⟩ := h1; exact Heap.lt_size e1
        · rw [q]; obtain ⟨_, e2, _⟩ := h2; exact Heap.lt_size e2
      rw [upd_ne (Nat.ne_of_lt hlt)]
      exact (hf c hcm).1
  done := by
    intro X hP hw hK hc i pins s σ H E I hf st hg
    subst hP hw hK
    obtain ⟨hz, hTI, ⟨x0, y0, hTO⟩, h1, h2⟩ := st
    obtain ⟨xs, ys, hqx, hqy, hend⟩ := hg
    obtain ⟨its, rv, p, _⟩ := I.list hqx
    obtain ⟨its2, rv2, p2, _⟩ := I.list hqy
    have l1 := rv.length
    have l2 := rv2.length
    have he : its.toArray[i]? = none ∨ its2.toArray[i]? = none := by
      rcases hend with q | q
      · exact .inl (by simp; omega)
      · exact .inr (by simp; omega)
    obtain ⟨x1, hot, ne⟩ := hot_ne hc I
    exact pyNext_zip_end_hot (A := X.A) hot (ne z (hf z (by simp))) (ne TO (hf TO (by simp))) (ne i1 (hf i1 (by simp))) (ne i2 (hf i2 (by simp))) D hz hTI hTO h1 h2 p.isList p2.isList he fun h' hk => ⟨rfl, I.turnedL (t' := s.toks) (ch := [z, TI, TO, i1, i2]) (fun c o hb q =>
      hk c o (fun q' => hb (by simp [q'])) (fun q' => hb (by simp [q'])) (fun q' => hb (by simp [q'])) (fun q' => hb (by simp [q'])) q) hf⟩
theorem pi_zipH {X : Cx} {e e2 : Expr} {ta : TA} {p pos tpos : Pos} {elts : List Expr} {kk : Nat} (hg : Gl X "zip") (hm : X.mg "zip" = none) (ha : PA X [e, e2] ta)
    (hs : starEach [e, e2] X.env = (false, eval e X.env) :: starEach [e2] X.env := by rfl) (hpl : (backTo pos (starEach [e2] X.env)).any (·.1) = false := by rfl) :
    PIH X (.Tuple elts kk tpos) (.Call (.Name "zip" p) [e, e2] [] pos) (iZip X.K ta) := by
  refine ⟨fun pins s σ H R I h => ?_⟩
  refine Call_ (ld_blt I hg hm PyProof.Rows.boot_zip (PyProof.Rows.callWith_type1 (thn (ha.run pos pins s σ H _ I h) fun us s1 ⟨vs, H1, I1, r1, q1⟩ => ?_) hs hpl))
  obtain ⟨a, b, xs, ys, ex, hqx, hqy, q⟩ := q1
  subst ex
  cases r1 with
  | cons r rr =>
    cases rr with
    | cons r' rr =>
      cases rr
      cases r
      cases r'
      obtain ⟨its, rv, p1, _⟩ := I1.list hqx
      obtain ⟨its2, rv2, p2, _⟩ := I1.list hqy
      have la : a < s1.heap.objs.size := p1.lt
      have lb : b < s1.heap.objs.size := p2.lt
      refine call_zip_2 p1.isList p2.isList fun h' hz hTI hTO h1 h2 hsz hk => wpAny_pyIter_zip hz ?_
      have I2 : L2.Inv X pins σ H1 { s1 with heap := h' } := I1.kept (t' := s1.toks) hk
      refine ⟨s1.heap.objs.size + 4, [s1.heap.objs.size + 4, s1.heap.objs.size + 2, s1.heap.objs.size + 3, s1.heap.objs.size, s1.heap.objs.size + 1], _, _, H1, rfl, I2, turn_zipH (PySem.W.ktu_apart s1.heap.objs.size a b la lb), ⟨hz, hTI, ⟨_, _, hTO⟩, h1, h2⟩, fun c hcm => ?_, q⟩
      have e' : c = s1.heap.objs.size + 4 ∨ c = s1.heap.objs.size + 2 ∨ c = s1.heap.objs.size + 3 ∨ c = s1.heap.objs.size ∨ c = s1.heap.objs.size + 1 := by simpa using hcm
      have hle : s1.heap.objs.size ≤ c := by
        rcases e' with z | z | z | z | z
        · rw [z]; exact Nat.le_add_right _ _
        · rw [z]; exact Nat.le_add_right _ _
        · rw [z]; exact Nat.le_add_right _ _
        · rw [z]; exact Nat.le_refl _
        · rw [z]; exact Nat.le_add_right _ _
      exact I1.fpOk hle (I1.hok.fresh hle)
section
variable {X : Cx} {Wx : WX} {pos p tpos : Pos} {a b : Expr} {me : ME (List W)} {elts : List Expr} {kk : Nat}
theorem i_zipH (hg : Gl X "zip") (hm : X.mg "zip" = none) (ha : PAm X Wx [a, b] me) (hs : starEach [a, b] X.env = (false, eval a X.env) :: starEach [b] X.env := by rfl) (hpl : (backTo pos (starEach [b] X.env)).any (·.1) = false := by rfl) :
    PIHm X Wx (.Tuple elts kk tpos) (.Call (.Name "zip" p) [a, b] [] pos) (mZip me) := ⟨PIH_imp (pi_zipH hg hm ha.pa hs hpl) fun σ H R q => tG_bnd q fun ι1 ws AH1 vs H1 e re s1 r1 q => by
    match ws, r1, q with
    | [], _, q => exact q.elim
    | [_], _, q => exact q.elim
    | _ :: _ :: _ :: _, _, q => exact q.elim
    | [x, y], r1, q =>
      obtain ⟨v1, v2, rfl, rv1, rv2⟩ := rws_two r1
      have q : Out X.K (RI X.K) (wx Wx σ) ι1 H1 (match seqL AH1 x, seqL AH1 y with
        | some xs, some ys => some (.ok ⟨fun h' => seqL h' x = some xs ∧ seqL h' y = some ys, pairW xs ys⟩, AH1)
        | _, _ => none) R := q
      cases e1 : seqL AH1 x with
      | none => rw [e1] at q; exact q.elim
      | some xs =>
        cases e2 : seqL AH1 y with
        | none => rw [e1, e2] at q; exact q.elim
        | some ys =>
          rw [e1, e2] at q
          obtain ⟨p1, us, rfl, h1, _⟩ := seqL_ok s1 rv1 e1
          obtain ⟨p2, vs, rfl, h2, _⟩ := seqL_ok s1 rv2 e2
          refine ⟨p1, p2, us, vs, rfl, h1, h2, q ι1 _ H1 Le.refl s1 ⟨fun ι2 AH2 H2 i w l2 s2 ok hw => ?_, fun ι2 AH2 H2 l2 s2 ok => ?_⟩⟩
          · obtain ⟨x1, y1, hx, hy, rfl⟩ := pairW_at hw
            obtain ⟨q1, us1, ep1, g1, t1⟩ := seqL_ok s2 (RW.mono l2 _ _ rv1) ok.1
            obtain ⟨q2, vs1, ep2, g2, t2⟩ := seqL_ok s2 (RW.mono l2 _ _ rv2) ok.2
            cases ep1; cases ep2
            obtain ⟨u, hu, ru⟩ := t1.get hx
            obtain ⟨v, hv, rv⟩ := t2.get hy
            refine ⟨⟨us1, vs1, u, v, g1, g2, hu, hv⟩, fun z H' ⟨T, x2, y2, e1, free, e3, f1, f2⟩ => ?_⟩
            have e4 := f1 us1 g1
            have e5 := f2 vs1 g2
            rw [hu] at e4; cases e4
            rw [hv] at e5; cases e5
            subst e1; subst e3
            have le : Le X.K ι2 H2 ι2 (upd H2 T (.tup [u, v])) := Le.free free
            exact ⟨le, s2.untr free, T, [u, v], rfl, .inl (.inl upd_same), RWs.mk (RW.mono le _ _ ru) (RWs.mk (RW.mono le _ _ rv) RWs.nl)⟩
          · obtain ⟨q1, us1, ep1, g1, t1⟩ := seqL_ok s2 (RW.mono l2 _ _ rv1) ok.1
            obtain ⟨q2, vs1, ep2, g2, t2⟩ := seqL_ok s2 (RW.mono l2 _ _ rv2) ok.2
            cases ep1; cases ep2
            refine ⟨us1, vs1, g1, g2, ?_⟩
            have := pairW_len xs ys
            show us1.length ≤ (pairW xs ys).length ∨ vs1.length ≤ (pairW xs ys).length
            rw [this, ← t1.length, ← t2.length]
            omega⟩
end
/-! ### max of two -/
theorem walks_tupH {prog : Program} {w : World} {A : Around} {x1 : Addr} {o1 : Obj} {vs1 : Array Value} (hh : A.handled = some (.ref x1)) (d1 : o1.data = .fields vs1) (c1 : vs1[2]? = some .none) (I ax : Addr) (hne : ax ≠ I) (hx : I ≠ x1) (items : Array Value) :
    PySem.Walks prog w A I [I, ax, x1] [I] items.size (fun i v => items[i]? = some v) (fun i h => (h.IsTupleIter I ax i ∧ h.IsTuple ax items) ∧ h.get? x1 = some o1) where
  sub := fun b hb => by rw [one_eq hb]; simp
  frame := fun _ _ _ st hk => ⟨⟨st.1.1.at fun o e => hk I (by simp) o e, st.1.2.at fun o e => hk ax (by simp) o e⟩, hk x1 (by simp) _ st.2⟩
  item := fun i s Q E hi st hQ => wpAny_pyNext_tuple_item st.1.1 st.1.2 (x := items[i]) (by simp [hi]) fun h' hit' hs' =>
    hQ _ h' s.toks (by simp [hi]) ⟨⟨hit', st.1.2.extBut hs'.extBut hne⟩, hs'.extBut x1 o1 (Ne.symm hx) st.2⟩ fun b o hb e => hs'.extBut b o (fun h => hb (by simp [h])) e
  done := fun s Q E st hQ => tuple_end_hot ⟨hh, o1, vs1, st.2, d1, c1⟩ hx st.1.1 (by obtain ⟨o, e, c, n, d⟩ := st.1.2; exact ⟨o, e, c, n, d⟩) (by simp) fun h' he' => hQ h' s.toks fun b o hb e => he' b o (fun h => hb (by simp [h])) e
  self := fun _ _ _ _ st hQ => wpAny_pyIter_tupleiter st.1.1 hQ
theorem max_two_hot {prog : Program} {w : World} {A : Around} {E : Value → Shared → Prop} {s : Shared} {x1 : Addr} {a b : Int} {t u : Tok} {Q : Value → Shared → Prop} (hot : HotAt A x1 s.heap)
    (h : ∀ h' tk, (∀ c o, s.heap.get? c = some o → h'.get? c = some o) → Q (if b > a then .int b u else .int a t) { s with heap := h', toks := tk }) :
    wpAny (model prog w) A (call (.builtin "max") [.int a t, .int b u]) Q E s := by
  obtain ⟨hh, o1, vs1, g1, d1, c1⟩ := hot
  have lx := Heap.lt_size g1
  have hT : (s.heap.push { cls := .type "tuple", data := .seq #[.int a t, .int b u] }).IsTuple s.heap.objs.size (intItems #[(a, t), (b, u)]) := ⟨_, Heap.get?_push_size _ rfl, rfl, 0, by simp [intItems]⟩
  refine call_max_two (wpAny_pyIter_tuple hT ?_)
  have hsz : (s.heap.push { cls := .type "tuple", data := .seq #[.int a t, .int b u] }).objs.size = s.heap.objs.size + 1 := Heap.size_push ..
  refine ⟨_, [_, s.heap.objs.size, x1], [_], _, _, _, _, rfl, walks_tupH (A := A.in1) hh d1 c1 _ s.heap.objs.size (by rw [hsz]; exact Nat.ne_of_lt (Nat.lt_succ_self _)) (by rw [hsz]; exact Nat.ne_of_gt (Nat.lt_succ_of_lt lx)) (intItems #[(a, t), (b, u)]),
    ⟨⟨⟨_, Heap.get?_push_size _ rfl, rfl, rfl⟩, hT.push _⟩, Heap.get?_push_of_some _ (Heap.get?_push_of_some _ g1)⟩, fun c hc => ?_, by simp [intItems], CmpOf.ints_gt (numAt #[(a, t), (b, u)]) (fun _ _ => intItems_at), fun v h' tk hP hk => ?_⟩
  · show c < ((s.heap.push _).push _).objs.size
    rw [Heap.size_push, hsz]
    rcases List.mem_cons.mp hc with rfl | hc
    · rw [hsz]; exact Nat.lt_succ_self _
    · rcases List.mem_cons.mp hc with rfl | hc
      · exact Nat.lt_succ_of_lt (Nat.lt_succ_self _)
      · rcases List.mem_cons.mp hc with rfl | hc
        · exact Nat.lt_succ_of_lt (Nat.lt_succ_of_lt lx)
        · cases hc
  · have hold : ∀ c o, s.heap.get? c = some o → h'.get? c = some o := fun c o e => by
      refine hk c o (fun hm => ?_) (Heap.get?_push_of_some _ (Heap.get?_push_of_some _ e))
      rcases List.mem_cons.mp hm with e1 | hm
      · have := Heap.lt_size e; rw [e1, hsz] at this; exact Nat.lt_irrefl _ (Nat.lt_of_succ_lt this)
      · cases hm
    have := h h' tk hold
    have hv : v = if b > a then Value.int b u else Value.int a t := by
      have hP' : (intItems #[(a, t), (b, u)])[argBest (fun i j => decide (numAt #[(a, t), (b, u)] i > numAt #[(a, t), (b, u)] j)) 1]? = some v := by
        have hsz2 : (intItems #[(a, t), (b, u)]).size - 1 = 1 := by simp [intItems]
        rw [← hsz2]; exact hP
      by_cases hba : b > a
      · have e : argBest (fun i j => decide (numAt #[(a, t), (b, u)] i > numAt #[(a, t), (b, u)] j)) 1 = 1 := by simp [argBest, numAt, hba]
        rw [e] at hP'
        simpa [intItems, hba] using hP'.symm
      · have e : argBest (fun i j => decide (numAt #[(a, t), (b, u)] i > numAt #[(a, t), (b, u)] j)) 1 = 0 := by simp [argBest, numAt, hba]
        rw [e] at hP'
        simpa [intItems, hba] using hP'.symm
    rw [hv]; exact this
section
variable {X : Cx}
theorem call_max2H (hc : HotC X) : CallR X (.builtin "max") (fun xs H Q => ∃ i j, xs = [.int i, .int j] ∧ Q (.int (if j > i then j else i)) H) := by
  intro pins s σ H xs us Q I r h
  obtain ⟨i, j, rfl, q⟩ := h
  obtain ⟨u, w', rfl, ⟨t, rfl⟩, ⟨t', rfl⟩⟩ := vals2 r
  obtain ⟨x1, hot, _⟩ := hot_ne hc I
  refine max_two_hot hot fun h' tk k => ⟨_, H, I.kept k, ?_, q⟩
  by_cases hj : j > i
  · rw [if_pos hj, if_pos hj]; exact ⟨_, rfl⟩
  · rw [if_neg hj, if_neg hj]; exact ⟨_, rfl⟩
theorem c_maxH (hc : HotC X) : CallM X (.builtin "max") max2M := ⟨_, call_max2H hc, two_ok fun Xx ι AH H w u v v' Q s r r' o => by
  obtain ⟨i, j, rfl, rfl, _, o⟩ := gI_ok o
  exact ⟨i, j, by rw [rw_int r, rw_int r'], o ι _ H Le.refl s rfl⟩⟩
end
/-! ### the room in a suite, units -/
theorem roomS {X : Cx} {a : Addr} {pn : List (Addr × Obj)} {k : Nat} (r : Room k X.A) : RoomH k (X.suite a pn).A := ⟨r.dp, r.un⟩
theorem h65 {k : Nat} {A : Around} (r : RoomH k A) : A.units + 65 < cLine := by have := r.un; omega
theorem h1u {k : Nat} {A : Around} (r : RoomH k A) : A.units + 1 < cLine := by have := r.un; omega
/-! ### isinstance of the exception that is handled, by a table of exception classes -/
open Classical in
noncomputable def isxT (tab : ITab) (t u : Value) : Option Bool := if (t, u, true) ∈ tab then some true else if (t, u, false) ∈ tab then some false else none
theorem isxT_t {tab : ITab} {t u : Value} (h : (t, u, true) ∈ tab) : isxT tab t u = some true := if_pos h
theorem isxT_f {tab : ITab} {t u : Value} (c : Cons tab) (h : (t, u, false) ∈ tab) : isxT tab t u = some false := by
  unfold isxT
  rw [if_neg (fun z => c t u z h), if_pos h]
theorem isxT_mem {tab : ITab} {t u : Value} {b : Bool} (h : isxT tab t u = some b) : (t, u, b) ∈ tab := by
  unfold isxT at h
  by_cases c : (t, u, true) ∈ tab
  · rw [if_pos c] at h; cases h; exact c
  · rw [if_neg c] at h
    by_cases c2 : (t, u, false) ∈ tab
    · rw [if_pos c2] at h; cases h; exact c2
    · rw [if_neg c2] at h; cases h
def excCB (K : PySem.W.Frag) (D : Addr) : Bool := (decide (PySem.W.findIn K (.ref D) "__getattribute__" = some (some (.builtin "BaseException.__getattribute__"))) && (decide (PySem.W.findIn K (.ref D) "__getattr__" = some none) && (decide (PySem.W.subIn K (.ref D) (.type "BaseException") = some true) && PySem.W.hasDictIn K D))) &&
  (decide (PySem.W.findIn K (.ref D) "__class__" = some (some (.builtin "object.__class__"))) && (decide (PySem.W.specialIn K (.builtin "object.__class__") "__get__" = some (some (.builtin "getset_descriptor.__get__"))) && (decide (PySem.W.takesIn K (.builtin "object.__class__") = some true) && decide (PySem.W.mroIn K D (.type "object") = some true))))
theorem excC_of {K : PySem.W.Frag} {D : Addr} (h : excCB K D = true) : ExcC K D := by
  unfold excCB at h
  simp only [Bool.and_eq_true, decide_eq_true_eq] at h
  exact ⟨h.1.1, h.1.2.1, h.1.2.2.1, h.1.2.2.2, h.2.1, h.2.2.1, h.2.2.2.1, h.2.2.2.2⟩
/-- the table is right: kinds, and what its classes say -/
def isxB (K : PySem.W.Frag) (Ds : List Addr) (tab : ITab) : Bool := (Ds.all (excCB K)) && ((tab.all (kitB1 K)) && tab.all fun p => Ds.any fun D => decide (p.1 = .ref D))
theorem isxB_kit {K : PySem.W.Frag} {Ds : List Addr} {tab : ITab} (h : isxB K Ds tab = true) : ∀ p ∈ tab, PySem.W.kitOne K p.1 p.2.1 = some p.2.2 := by
  unfold isxB at h
  rw [Bool.and_eq_true, Bool.and_eq_true] at h
  exact kitB1_ok h.2.1
theorem isxB_exc {K : PySem.W.Frag} {Ds : List Addr} {tab : ITab} (h : isxB K Ds tab = true) {D : Addr} {u : Value} {b : Bool} (m : (Value.ref D, u, b) ∈ tab) : ExcC K D := by
  unfold isxB at h
  rw [Bool.and_eq_true, Bool.and_eq_true] at h
  obtain ⟨D', hD, e⟩ := List.any_eq_true.mp (List.all_eq_true.mp h.2.2 _ m)
  have e := of_decide_eq_true e
  cases e
  exact excC_of (List.all_eq_true.mp h.1 D hD)
theorem call_isX {X : Cx} {a D : Addr} (hc : HotZ X (ExAt a D)) : CallR X (.builtin "isinstance") (fun xs H Q => ExcC X.K D ∧ rIsE X.K D a xs H Q) := fun pins s σ H xs us Q I r ⟨C, h⟩ => call_isEH C hc pins s σ H xs us Q I r h
theorem c_isX {X : Cx} {a D : Addr} {Ds : List Addr} {tab : ITab} (hk : isxB X.K Ds tab = true) (hc : HotZ X (ExAt a D)) : CallM X (.builtin "isinstance") (isEM (isxT tab) a D) := ⟨_, call_isX hc, two_ok fun Xx ι AH H w u v v' Q s r r' o => by
  cases w with
  | gl b =>
    cases e2 : clsW u with
    | none => simp only [e2] at o; exact o.elim
    | some cv =>
      simp only [e2] at o
      by_cases c : b = a
      · rw [if_pos c] at o
        subst c
        cases e3 : isxT tab (.ref D) cv with
        | none => simp only [e3] at o; exact o.elim
        | some k =>
          simp only [e3] at o
          obtain rfl := (show v = V.ref b from r)
          refine ⟨isxB_exc hk (isxT_mem e3), v', cv, k, rfl, fun z rz => ?_, isxB_kit hk _ (isxT_mem e3), o ι _ H Le.refl s rfl⟩
          cases u with
          | ty n => cases e2; obtain rfl := (show v' = V.ty n from r'); exact rz
          | gl c => cases e2; obtain rfl := (show v' = V.ref c from r'); exact rz
          | _ => cases e2
      · rw [if_neg c] at o; exact o.elim
  | _ => exact o.elim⟩
/-! ### what an except clause catches -/
abbrev XTab := List (Value × Bool)
open Classical in
noncomputable def exT (tab : XTab) (t : Value) : Option Bool := if (t, true) ∈ tab then some true else if (t, false) ∈ tab then some false else none
theorem exT_t {tab : XTab} {t : Value} (h : (t, true) ∈ tab) : exT tab t = some true := if_pos h
def exTB (K : PySem.W.Frag) (c : Value) (tab : XTab) : Bool := tab.all fun p => decide (PySem.W.exmOne K p.1 c = some p.2)
theorem exT_ok {K : PySem.W.Frag} {c : Value} {tab : XTab} (h : exTB K c tab = true) : ∀ cls b, exT tab cls = some b → PySem.W.exmOne K cls c = some b := fun cls b e => by
  unfold exT at e
  by_cases q : (cls, true) ∈ tab
  · rw [if_pos q] at e; cases e
    exact of_decide_eq_true (List.all_eq_true.mp h _ q)
  · rw [if_neg q] at e
    by_cases q2 : (cls, false) ∈ tab
    · rw [if_pos q2] at e; cases e
      exact of_decide_eq_true (List.all_eq_true.mp h _ q2)
    · rw [if_neg q2] at e; cases e
theorem names_of {X : Cx} {x : Str} {c : Addr} (hg : Gl X x) (hm : X.mg x = some (.ref c)) (hdb : (x == ("__debug__" : Str)) = false := by decide) : Names X x (.ref c) := ⟨hg, hdb, .inl hm⟩
end Z
namespace Z
open PySem L2 L2H
theorem hzB {X : Cx} {Zp : Addr × Obj → Prop} {s : Shared} {H : Hp} {scope : Scope} {cenv : Env} {fp : List Addr} (h : HotZ X Zp) : HotZ (blkH X s H scope cenv fp) Zp := h
end Z
/-! str of an own instance. -/
namespace Z
open PySem PySem.Spec PyProof.Rows L2
def strB (K : PySem.W.Frag) (C : Addr) : Bool := decide (PySem.W.findIn K (.ref C) "__str__" = some (some (.builtin "object.__str__"))) && decide (PySem.W.mroIn K C (.type "object") = some true)
section
variable {X : Cx} {k : Nat} {f C : Addr} {fd : FuncData} {p1 : Str} {F : List W → M W}
theorem c_strOwn (G : FM X.prog X.w X.K X.mg X.base k f fd [p1] F) (hb : Binds X.K fd [p1] []) (hr : Room (k + 3) X.A) (hG : X.A.guards = some []) (hB : strB X.K C = true) (he : PySem.W.findIn X.K (.ref C) "__repr__" = some (some (.ref f))) (hf : PySem.W.isFn X.K (.ref f) = true) : CallM X (.type "str") (reprOwnM C F) := by
  unfold strB at hB
  simp only [Bool.and_eq_true, decide_eq_true_eq] at hB
  refine ⟨fun xs H Q => ∃ a dx vs, xs = [.ref a] ∧ H a = some (.ins C dx vs) ∧ spM X.K 1 F [.ref a] H (fun v H' => ∃ z, v = .str z ∧ Q (.str z) H') fun _ _ _ => False, fun pins s σ H xs us Q I r ⟨a, dx, vs, ex, hi, sp⟩ => ?_, one_ok fun Xx ι AH H w v Q s r o => ?_⟩
  · subst ex
    obtain ⟨u, rfl, ru⟩ := vals1 r
    obtain rfl : u = Value.ref a := ru
    obtain ⟨mA, O, _⟩ := ins_get I.hok hi
    obtain ⟨od, J, _⟩ := O.look
    have hu : X.A.in1.in1.units < cLine := by have := hr.un; show X.A.units + 1 + 1 < cLine; omega
    have hu1 : X.A.in1.in1.in1.units < cLine := by have := hr.un; show X.A.units + 1 + 1 + 1 < cLine; omega
    refine PySem.W.kfo_call hu hu1 I.kIn J hB.1 hB.2 he hf (wpAny_mono (own1_go G hb (A := X.A.in1.in1.in1) hr.in1.in1.in1 hG rfl I (show RelV (.ref a) (Value.ref a) from rfl) sp) (fun z s' hz => ?_) fun _ _ z => z)
    obtain ⟨w, H', I', rw', y, ew, q⟩ := hz
    subst ew
    obtain ⟨t, rfl⟩ := (show ∃ t, z = Value.str y t from rw')
    exact ⟨.str y, H', I', ⟨t, rfl⟩, q⟩
  · cases e1 : insAt [C] AH w with
    | none => simp only [e1] at o; exact o.elim
    | some nc =>
      obtain ⟨n, D, fs⟩ := nc
      simp only [e1] at o
      obtain ⟨m, a, dx, vs, rfl, ha, hi, rp⟩ := insAt_ok s r e1
      obtain rfl := List.mem_singleton.mp m
      refine ⟨a, dx, vs, rfl, hi, rfl, ι, [w], AH, RWs.mk r RWs.nl, s, ?_⟩
      cases hF : F [w] AH with
      | none => simp only [hF] at o; exact o.elim
      | some z =>
        obtain ⟨rz, h'⟩ := z
        simp only [hF] at o
        cases rz with
        | error x => exact o.elim
        | ok u =>
          cases u with
          | str y => exact fun ι' v H' l s' rv => ⟨y, rw_str rv, o ι' (.str y) H' l s' rfl⟩
          | _ => exact o.elim
end
end Z
/-! ### is, is not of truths -/
namespace Z
open PySem PySem.Spec PyProof.Rows L2
def isBM (k : Bool → Bool) (x y : W) : M W := fun h => match x with
  | .bl a => (match y with
    | .bl b => some (.ok (.bl (k (decide (a = b)))), h)
    | _ => none)
  | _ => none
section
variable {X : Cx}
theorem keeps_isB {k : Bool → Bool} {r : R2} (hr : ∀ a b H Q, Q (.bl (k (decide (a = b)))) H → r (.bl a) (.bl b) H Q) : Keeps2 X r (isBM k) := by
  intro Xx ι AH H w1 w2 v1 v2 Q s r1 r2 h
  cases w1 with
  | bl a =>
    cases w2 with
    | bl b =>
      rw [rw_bl r1, rw_bl r2]
      exact hr a b H Q (h ι _ H Le.refl s (show V.bl _ = _ from rfl))
    | _ => exact h.elim
  | _ => exact h.elim
theorem op_isBM : OpM X (compareOp .Is) (isBM id) := ⟨_, op_is_bl, keeps_isB fun a b H Q q => ⟨a, b, rfl, rfl, q⟩⟩
theorem op_notBM : OpM X (compareOp .IsNot) (isBM not) := ⟨_, op_isnot_bl, keeps_isB fun a b H Q q => ⟨a, b, rfl, rfl, q⟩⟩
end
end Z
/-! A lambda without parameters, handed to a def that calls it. -/
namespace Z
open PySem PySem.Spec PyProof.Rows L2 LamX
/-! ### the maker's slots -/
def mkE : List Bool → List W → Ev
  | [], _ => []
  | false :: s, ws => none :: mkE s ws
  | true :: s, w :: ws => some w :: mkE s ws
  | true :: s, [] => none :: mkE s []
def shE (e : Ev) : List Bool := e.map (·.isSome)
def wsE (e : Ev) : List W := e.filterMap id
theorem mkE_eq : ∀ e : Ev, mkE (shE e) (wsE e) = e
  | [] => rfl
  | none :: e => congrArg (none :: ·) (mkE_eq e)
  | some w :: e => congrArg (some w :: ·) (mkE_eq e)
section
variable {K : PySem.W.Frag} {ι : List Addr} {H : Hp}
theorem re_tl {o : Option W} {e : Ev} {p : Option V} {σ : L2.St} (r : RE K ι H (o :: e) (p :: σ)) : RE K ι H e σ :=
  ⟨by have := r.len; simpa using this, fun i w q => r.get (i + 1) w (by simpa using q)⟩
theorem re_co {o : Option W} {e : Ev} {p : Option V} {σ : L2.St} (r : RE K ι H e σ) (h : ∀ w, o = some w → ∃ v, p = some v ∧ RW K ι H w v) : RE K ι H (o :: e) (p :: σ) := by
  refine ⟨by simp [r.len], fun i w q => ?_⟩
  cases i with
  | zero =>
    obtain ⟨v, e1, e2⟩ := h w (by simpa using q)
    exact ⟨v, by rw [e1]; rfl, e2⟩
  | succ i => exact r.get i w (by simpa using q)
theorem re_fit : ∀ {sh : List Bool} {ws : List W} {vs : List V} {σ : L2.St}, RWs K ι H ws vs → fitS sh vs σ → RE K ι H (mkE sh ws) σ
  | [], ws, vs, σ, r, h => by
    obtain rfl : σ = [] := h
    exact ⟨rfl, fun i w q => by simp [mkE] at q⟩
  | false :: s, ws, vs, σ, r, h => by
    obtain ⟨o, t, rfl, h2⟩ := (show ∃ o r, σ = o :: r ∧ fitS s vs r from h)
    exact re_co (re_fit r h2) fun w q => nomatch q
  | true :: s, ws, [], σ, r, h => h.elim
  | true :: s, [], v :: vs, σ, r, h => by
    have := rws_nil r
    cases this
  | true :: s, w :: ws, v :: vs, σ, r, h => by
    obtain ⟨t, rfl, h2⟩ := (show ∃ r, σ = some v :: r ∧ fitS s vs r from h)
    obtain ⟨v', vr, e, r1, r2⟩ := rws_cons r
    cases e
    exact re_co (re_fit r2 h2) fun u q => by cases q; exact ⟨v, rfl, r1⟩
theorem fit_re : ∀ {e : Ev} {σ : L2.St}, RE K ι H e σ → ∃ vs, RWs K ι H (wsE e) vs ∧ fitS (shE e) vs σ
  | [], σ, r => by
    have := r.len
    obtain rfl : σ = [] := List.length_eq_zero_iff.mp this.symm
    exact ⟨[], RWs.nl, rfl⟩
  | o :: e, [], r => by have := r.len; simp at this
  | none :: e, p :: σ, r => by
    obtain ⟨vs, a, b⟩ := fit_re (re_tl r)
    exact ⟨vs, a, p, σ, rfl, b⟩
  | some w :: e, p :: σ, r => by
    obtain ⟨vs, a, b⟩ := fit_re (re_tl r)
    obtain ⟨v, e1, e2⟩ := r.get 0 w rfl
    have e1 : p = some v := by simpa using e1
    subst e1
    exact ⟨v :: vs, RWs.mk e2 a, σ, rfl, b⟩
end
/-! ### its call, where it was handed to -/
open Classical in
noncomputable def mAct (j : Nat) (f c : Addr) (q : Str) (σ : List (Option V)) (mb : ME W) : ME W := fun e h => match e[j]? with
  | some (some (.clo f' c' q' σ' sh ws)) => if f' = f ∧ c' = c ∧ q' = q ∧ σ' = σ then mb (mkE sh ws) h else none
  | _ => none
/-- the context of its body -/
abbrev lamN (X : Cx) (A : Around) (outer : List Env) (s : Shared) (H : Hp) (E : XK) (scope : Scope) (f c' : Addr) : Cx :=
  (lamCx X A outer s H (fun _ _ _ => False) scope f c').tr [] fun e s' => wpAny (model X.prog X.w) (A.deeper (lamEnv X scope s.heap.objs.size f c')) (leaving (lamEnv X scope s.heap.objs.size f c') e) (fun _ s2 => L2N.CX X.prog X.w outer H s E e s2) (fun e' s2 => L2N.CX X.prog X.w outer H s E e' s2) s'
theorem act_out {K : PySem.W.Frag} {R : List Addr → Hp → W → V → Prop} {Xx : AX → Option Addr → Hp → Prop} {ι : List Addr} {H : Hp} {AH : Hv} {Q : VK} {j : Nat} {f c : Addr} {q : Str} {σ : List (Option V)} {mb : ME W} {e : Ev} (h : Out K R Xx ι H (mAct j f c q σ mb e AH) Q) :
    ∃ sh ws, e[j]? = some (some (.clo f c q σ sh ws)) ∧ Out K R Xx ι H (mb (mkE sh ws) AH) Q := by
  unfold mAct at h
  cases he : e[j]? with
  | none => rw [he] at h; exact h.elim
  | some o =>
    rw [he] at h
    cases o with
    | none => exact h.elim
    | some w =>
      cases w with
      | clo f2 c2 q2 σ2 sh ws =>
        by_cases cc : f2 = f ∧ c2 = c ∧ q2 = q ∧ σ2 = σ
        · simp only [if_pos cc] at h
          obtain ⟨rfl, rfl, rfl, rfl⟩ := cc
          exact ⟨sh, ws, rfl, h⟩
        · simp only [if_neg cc] at h; exact h.elim
      | _ => exact h.elim
section
variable {X : Cx} {pins : List (Addr × Obj)} {σ : L2.St} {H : Hp} {s : Shared}
theorem m_act {Eg : XK} {Ng : List Str} {qg : Str} {sg : Scope} {g f c' : Addr} {cdg pm ctv : Value} {params : Arguments} {body : Expr} {scope : Scope} {k : Nat} {a : Str} {pn : List (Addr × Obj)} {xe : Value → Shared → Prop} {W' : WX} {mb : ME W} {p1 p2 : Pos}
    (I : L2.Inv X pins σ H s) (L : LamS X.env.scope scope) (hf : s.heap.get? f = some (PySem.W.kla_obj "<lambda>" (X.env.qual ++ "<lambda>") params body scope (cloFrom X.env.cells scope.names []) pm c' ctv)) (hfn : H f = none) (hfr : f ∉ frs X.stack)
    (hbind : bindArgs (PySem.W.kla_fn "<lambda>" (X.env.qual ++ "<lambda>") params body scope (cloFrom X.env.cells scope.names []) pm (.ref c') ctv) ⟨[], []⟩ = pure [])
    (tk : L2N.Takes ((cxOf (L2N.CX X.prog X.w) X.prog X.w X.K X.mg X.base Ng qg sg g cdg X.A X.stack s H Eg).tr pn xe) W') (hr : Room (k + 1) (X.A.deeper (envOfC qg sg s.heap.objs.size g cdg))) (hG : X.A.guards = some [])
    (hlam : ∀ (A : Around) (outer : List Env) (s : Shared) (H : Hp) (E : XK) (f c' : Addr), Room k (A.deeper (lamEnv X scope s.heap.objs.size f c')) → A.guards = some [] → PEm (lamN X A outer s H E scope f c') (fun cls d _ H' => E cls d H') body mb)
    (hN : Ng[0]? = some a) (hv : Vis sg a) (hd : (a == ("__debug__" : Str)) = false := by decide) (hcd : (a == ("__classdict__" : Str)) = false := by decide) :
    PEm ((cxOf (L2N.CX X.prog X.w) X.prog X.w X.K X.mg X.base Ng qg sg g cdg X.A X.stack s H Eg).tr pn xe) W' (.Call (.Name a p1) [] [] p2) (mAct 0 f c' (X.env.qual ++ "<lambda>") σ mb) := by
  refine ⟨⟨fun pz sZ σZ HZ Q IZ h => ?_⟩⟩
  obtain ⟨ι, e, AH, re, sr, h⟩ := h
  obtain ⟨sh, ws, he, h⟩ := act_out h
  obtain ⟨v, hs, rv⟩ := re.get 0 _ he
  obtain ⟨rfl, hc, vs, rws, fit⟩ := (show v = .ref f ∧ HZ c' = some (CodeO c' (X.env.qual ++ "<lambda>")) ∧ ∃ vs, RWs X.K ι HZ ws vs ∧ fitS sh vs σ from rv)
  have rm := re_fit rws fit
  refine wpAny_Call_Name_kw (thn ((pe_var (pos := p1) (i := 0) hN hv hd hcd).run pz sZ σZ HZ (fun v H1 => v = .ref f ∧ H1 = HZ) IZ ⟨.ref f, hs, rfl, rfl⟩) fun u s1 ⟨v1, H1, I1, r1, q1⟩ => ?_)
  obtain ⟨rfl, rfl⟩ := q1
  obtain rfl : u = Value.ref f := r1
  have at1 := I1.base.keep f _ hf hfn hfr (fun z => nomatch (show f ∈ ([] : List Addr) from z))
  refine PySem.W.callWith_F0 ⟨_, _, _, _, at1⟩ ?_
  obtain ⟨⟨oc, cv, t, hoc, hdc, hvc⟩, _, _⟩ := I1.hok c' _ hc
  have rc : codeAny (model X.prog X.w) (X.A.deeper (envOfC qg sg s.heap.objs.size g cdg)) (.call (.ref f) ⟨[], []⟩) (CR (L2N.CX X.prog X.w) (envOfC qg sg s.heap.objs.size g cdg :: X.stack) X.prog X.w H1 s1 Q (WE W' σZ)) s1 := by
    refine PySem.W.kla_callFunE hr.depth at1 rfl L.co L.gen rfl ⟨c', oc, cv, t, rfl, hoc, hdc, hvc⟩ ?_
    rw [hbind]
    refine wpAny_pure (wpAny_newFunctionEnv (fun y hy => (L.own y hy).2) (fun y hy => absurd hy (by simp)) (fun h₁ hns hsb => ⟨I1.nolimit.fresh _ hsb, ?_⟩) L.kind)
    have kp : ∀ b o, s1.heap.get? b = some o → h₁.get? b = some o := fun b o e => hsb.extBut b o (Nat.ne_of_lt (Heap.lt_size e)) (Heap.get?_push_of_some _ e)
    have J0 := lam_start2 (A := X.A.deeper (envOfC qg sg s.heap.objs.size g cdg)) (outer := envOfC qg sg s.heap.objs.size g cdg :: X.stack) (E := fun _ _ _ => False) (scope := scope) (f := f) (c' := c') (tk := s1.toks + ([] : List (Str × Value)).length) I L I1.env0 hr.hd I1.base hns kp
    have J := J0.toTry fun e s' => wpAny (model X.prog X.w) ((X.A.deeper (envOfC qg sg s.heap.objs.size g cdg)).deeper (lamEnv X scope s1.heap.objs.size f c')) (leaving (lamEnv X scope s1.heap.objs.size f c') e) (fun _ s2 => L2N.CX X.prog X.w (envOfC qg sg s.heap.objs.size g cdg :: X.stack) H1 s1 (WE W' σZ) e s2) (fun e' s2 => L2N.CX X.prog X.w (envOfC qg sg s.heap.objs.size g cdg :: X.stack) H1 s1 (WE W' σZ) e' s2) s'
    refine PySem.W.kla_codeExpr (wpAny_mono ((hlam (X.A.deeper (envOfC qg sg s.heap.objs.size g cdg)) (envOfC qg sg s.heap.objs.size g cdg :: X.stack) s1 H1 (WE W' σZ) f c' (hr.deeper _) hG).pe.run [] _ _ H1 Q J ⟨ι, _, AH, rm, sr, h⟩) (fun v s' hq => ?_) fun e s' hq => hq)
    obtain ⟨w', H', J', rv, q⟩ := hq
    exact ⟨w', H', J'.os, J'.bare, J'.base, J'.hok, rv, q⟩
  refine wpAny_call (codeAny_mono rc fun r s' hq => ?_)
  · cases r with
    | error e => exact L2N.passAt tk σZ pz H1 s1 e s' I1 hq
    | ok fl =>
      cases fl with
      | ret u => exact I1.after hq
      | _ => exact hq.elim

end
/-! ### the making -/
def tabO : AO → Option (Addr × Str)
  | .tab P q => some (P, q)
  | _ => none
theorem tabO_eq {o : AO} {P : Addr} {q : Str} (h : tabO o = some (P, q)) : o = .tab P q := by
  cases o with
  | tab P' q' => cases h; rfl
  | _ => cases h
open Classical in
/-- what a def F makes of a lambda: alike for all places of it -/
noncomputable def mLam (P : Addr) (q : Str) (F : Addr → Addr → List (Option V) → List W → M W) : ME W := fun e h =>
  if ∃ n : Nat, h[n]? = some (AO.tab P q) then (if hh : ∃ r, ∀ f c σ, F f c σ [.clo f c q σ (shE e) (wsE e)] h = r then hh.choose else none) else none
theorem out_runB {K : PySem.W.Frag} {E : XK} {ι : List Addr} {H : Hp} {n : Nat} {m : MS} {ws : List W} {AH : Hv} {Q : VK} (h : Out K (RW K) (fun x d H => E x.cls d H) ι H (runB n m ws AH) Q) :
    OutS K (fun cls d _ H' => E cls d H') ι H (m (ws.map some ++ List.replicate (n - ws.length) none) AH) { nx := fun _ H' => Q .non H', rt := Q } := by
  unfold runB at h
  match hm : m (ws.map some ++ List.replicate (n - ws.length) none) AH, h with
  | some (.ok (.rt u), e', h'), h => exact h
  | some (.ok .nx, e', h'), h => exact fun ι' σ' H' l s' _ => h ι' .non H' l s' (show V.non = .non from rfl)
  | some (.error y, e', h'), h => exact fun ι' σ' d H' l s' _ xr => h ι' d H' l s' xr
theorem fnS0 {N : List Str} {a : Str} {sc : Scope} (S : FnScope N [a] sc) : N[0]? = some a := by
  have := S.pre
  cases N with
  | nil => cases this
  | cons b r => have : [b] = [a] := by simpa using this
                cases this; rfl
section
variable {X : Cx} {Wx : WX} {k : Nat} {g c P : Addr} {fd : FuncData} {x a qual : Str} {pg : Arguments} {bg : List Stmt} {sg : Scope} {kws : List (Str × V)} {Ng : List Str} {params : Arguments} {lb : Expr} {scope : Scope} {p lpos pos : Pos} {mb : ME W} {mg' : ME W → Str → Addr → Addr → List (Option V) → MS}
theorem m_lam (tk : L2N.Takes X Wx) (hr : Room (k + 2) X.A) (hG : X.A.guards = some []) (hg : Gl X x) (hm : X.mg x = some (.ref g)) (FD : FunD X.K x qual pg bg sg [] kws g fd) (hb : Binds X.K fd [a] []) (Sg : FnScope Ng [a] sg) (hva : Vis sg a)
    (hbdy : ∀ (mb : ME W) (q : Str) (cdv : Value) (A : Around) (outer : List Env) (s : Shared) (H : Hp) (E : XK) (f c : Addr) (σ : List (Option V)), Room (k + 1) (A.deeper (envOfC qual sg s.heap.objs.size g cdv)) → A.guards = some [] →
      (∀ (pn : List (Addr × Obj)) (xe : Value → Shared → Prop) (W' : WX) (p1 p2 : Pos), L2N.Takes ((cxOf (L2N.CX X.prog X.w) X.prog X.w X.K X.mg X.base Ng qual sg g cdv A outer s H E).tr pn xe) W' → PEm ((cxOf (L2N.CX X.prog X.w) X.prog X.w X.K X.mg X.base Ng qual sg g cdv A outer s H E).tr pn xe) W' (.Call (.Name a p1) [] [] p2) (mAct 0 f c q σ mb)) →
      PSsm (cxOf (L2N.CX X.prog X.w) X.prog X.w X.K X.mg X.base Ng qual sg g cdv A outer s H E) (fun cls d _ H' => E cls d H') bg (mg' mb q f c σ))
    (TB : TabB X.base X.mg c P) (hcode : X.env.code = .ref c) (L : LamS X.env.scope scope) (hdef : defaultsOf params X.env = ([], []))
    (hbind : ∀ (q : Str) (cl : List (Str × Addr)) (pm cv ctv : Value), bindArgs (PySem.W.kla_fn "<lambda>" q params lb scope cl pm cv ctv) ⟨[], []⟩ = pure [])
    (hlam : ∀ (A : Around) (outer : List Env) (s : Shared) (H : Hp) (E : XK) (f c' : Addr), Room k (A.deeper (lamEnv X scope s.heap.objs.size f c')) → A.guards = some [] → PEm (lamN X A outer s H E scope f c') (fun cls d _ H' => E cls d H') lb mb)
    (hdb : (x == ("__debug__" : Str)) = false := by decide) (hd : (a == ("__debug__" : Str)) = false := by decide) (hcd : (a == ("__classdict__" : Str)) = false := by decide) :
    PEm X Wx (.Call (.Name x p) [.Lambda params lb scope lpos] [] pos) (mLam P (X.env.qual ++ "<lambda>") fun f c σ => runB Ng.length (mg' mb (X.env.qual ++ "<lambda>") f c σ)) := by
  refine ⟨⟨fun pins s σ H Q I h => ?_⟩⟩
  obtain ⟨ι, e, AH, re, sr, h⟩ := h
  unfold mLam at h
  by_cases c1 : ∃ n : Nat, AH[n]? = some (AO.tab P (X.env.qual ++ "<lambda>"))
  case neg => rw [if_neg c1] at h; exact h.elim
  rw [if_pos c1] at h
  obtain ⟨n, hn⟩ := c1
  by_cases hh : ∃ r, ∀ f c σ, runB Ng.length (mg' mb (X.env.qual ++ "<lambda>") f c σ) [.clo f c (X.env.qual ++ "<lambda>") σ (shE e) (wsE e)] AH = r
  case neg => rw [dif_neg hh] at h; exact h.elim
  rw [dif_pos hh] at h
  have hs := hh.choose_spec
  obtain ⟨aP, hi, eP, tP⟩ := sr.addr hn
  subst eP
  -- all tables
  have mem : ∀ r ∈ AH.filterMap tabO, ∃ m : Nat, ι[m]? = some r.1 ∧ AH[m]? = some (AO.tab r.1 r.2) ∧ TabS H r.1 r.2 := fun r hr' => by
    obtain ⟨o, ho, eo⟩ := List.mem_filterMap.mp hr'
    obtain ⟨m, hm'⟩ := List.mem_iff_getElem?.mp ho
    rw [tabO_eq (P := r.1) (q := r.2) eo] at hm'
    obtain ⟨b, hb', e1, e2⟩ := sr.addr hm'
    subst e1
    exact ⟨m, hb', hm', e2⟩
  have hT : Tabs (AH.filterMap tabO) H := fun r hr' => (mem r hr').elim fun m z => z.2.2
  have hmT : (aP, X.env.qual ++ "<lambda>") ∈ AH.filterMap tabO := List.mem_filterMap.mpr ⟨_, List.mem_of_getElem? hn, rfl⟩
  have hu : ∀ r ∈ AH.filterMap tabO, r.1 = aP → r.2 = X.env.qual ++ "<lambda>" := fun r hr' e1 => by
    obtain ⟨m, a1, a2, _⟩ := mem r hr'
    rw [e1] at a1
    obtain ⟨l1, z1⟩ := List.getElem?_eq_some_iff.mp a1
    obtain ⟨l2, z2⟩ := List.getElem?_eq_some_iff.mp hi
    obtain rfl : m = n := (List.getElem_inj sr.nd).mp (z1.trans z2.symm)
    rw [hn] at a2
    exact (AO.tab.inj (Option.some.inj a2)).2.symm
  obtain ⟨oc, od, dV, kV, doc, pm, an, cdv, ct, osl, rfl, lk, hcd0, hD0, hK0⟩ := id FD.ex
  refine wpAny_Call_Name_kw (ld_glob I hg hm ?_ hdb)
  refine PySem.W.callWith_K (h₀ := X.base) I.ok.mod.kin FD.kp ?_ (by rfl) (by rfl)
  show wpAny _ _ (spliced ((false, eval (.Lambda params lb scope lpos) X.env) :: backTo pos (starEach [] X.env))) _ _ s
  refine Calls.spliced_cons (lam_make2 I TB hcode hmT hu hT hdef (L.has I.ok) fun f c' pm' ctv H1 s' I1 eN T1 hf hfn hfr hco => ?_)
  refine Calls.spliced_nil ⟨I1.kIn, ?_⟩
  -- the same things there
  have le : Le X.K ι H ι H1 := by
    refine ⟨⟨[], by simp⟩, fun b xs t => ?_, fun b xs t => ?_, fun b q t => eN b _ t (fun ps z => codeO_ne ps z)⟩
    · rcases t with (t | ⟨o, t⟩) | t
      · exact .inl (.inl (eN b _ t (fun ps z => nomatch z)))
      · exact .inl (.inr ⟨o, eN b _ t (fun ps z => nomatch z)⟩)
      · exact .inr t
    · rcases t with ⟨o, t⟩ | t
      · exact .inl ⟨o, eN b _ t (fun ps z => nomatch z)⟩
      · exact .inr t
  have sr1 : Sr X.K ι H1 AH := by
    refine ⟨sr.len, sr.nd, fun m b o h1 h2 => ?_⟩
    have z := sr.ob m b o h1 h2
    cases o with
    | lst ws => obtain ⟨vs, e1, r⟩ := z; exact ⟨vs, eN b _ e1 (fun ps z => nomatch z), RWs.mono le _ _ r⟩
    | dk ws => obtain ⟨vs, e1, r⟩ := z; exact ⟨vs, eN b _ e1 (fun ps z => nomatch z), r.mono le⟩
    | ins C ws => obtain ⟨dx, vs, e1, r⟩ := z; exact ⟨dx, vs, eN b _ e1 (fun ps z => nomatch z), r.mono le⟩
    | tab P' q' =>
      obtain ⟨e1, _⟩ := z
      exact ⟨e1, T1 (P', q') (List.mem_filterMap.mpr ⟨_, List.mem_of_getElem? h2, rfl⟩)⟩
  obtain ⟨vs, rv, fit⟩ := fit_re re
  have rc : RW X.K ι H1 (.clo f c' (X.env.qual ++ "<lambda>") σ (shE e) (wsE e)) (.ref f) := ⟨rfl, hco, vs, RWs.mono le _ _ rv, fit⟩
  have h1 := h.le le
  rw [← hs f c' σ] at h1
  have b1 := hb s' [.ref f] I1.kIn rfl
  rw [List.append_nil] at b1
  have run : codeAny (model X.prog X.w) X.A (.call (.ref g) ⟨[.ref f], []⟩) (CR (L2N.CX X.prog X.w) X.stack X.prog X.w H1 s' Q (WE Wx σ)) s' := by
    refine run_ofS (N := Ng) (ps := [a]) (us := [.ref f]) (vs := [.ref f]) lk hcd0 Sg hr I1.env0 b1 (.cons rfl .nil) rfl fun hr' => ?_
    refine ⟨_, (hbdy mb (X.env.qual ++ "<lambda>") cdv X.A X.stack s' H1 (WE Wx σ) f c' σ hr' hG fun pn xe W' p1 p2 tk' => m_act I1 L hf hfn hfr (hbind _ _ _ _ _) tk' hr' hG hlam (fnS0 Sg) hva hd hcd).ps, ?_⟩
    exact ⟨ι, _, AH, start_re (RWs.mk rc RWs.nl), sr1, out_runB (E := WE Wx σ) h1⟩
  refine wpAny_call (codeAny_mono run fun r s2 hq => ?_)
  cases r with
  | error e => exact L2N.passAt tk σ pins H1 s' e s2 I1 hq
  | ok fl =>
    cases fl with
    | ret u => exact I1.after hq
    | _ => exact hq.elim
end
end Z
namespace Z
open PySem PySem.Spec PyProof.Rows L2 LamX
/-- what a def that calls its lambda promises of its body -/
abbrev LBody (P : Program) (w : World) (K : PySem.W.Frag) (mg : Str → Option Value) (base : Heap) (k : Nat) (Ng : List Str) (qual : Str) (sg : Scope) (g : Addr) (bg : List Stmt) (a : Str) (m : ME W → Str → Addr → Addr → List (Option V) → MS) : Prop :=
  ∀ (mb : ME W) (q : Str) (cdv : Value) (A : Around) (outer : List Env) (s : Shared) (H : Hp) (E : XK) (f c : Addr) (σ : List (Option V)), Room k (A.deeper (envOfC qual sg s.heap.objs.size g cdv)) → A.guards = some [] →
    (∀ (pn : List (Addr × Obj)) (xe : Value → Shared → Prop) (W' : WX) (p1 p2 : Pos), L2N.Takes ((cxOf (L2N.CX P w) P w K mg base Ng qual sg g cdv A outer s H E).tr pn xe) W' → PEm ((cxOf (L2N.CX P w) P w K mg base Ng qual sg g cdv A outer s H E).tr pn xe) W' (.Call (.Name a p1) [] [] p2) (mAct 0 f c q σ mb)) →
    PSsm (cxOf (L2N.CX P w) P w K mg base Ng qual sg g cdv A outer s H E) (fun cls d _ H' => E cls d H') bg (m mb q f c σ)
theorem lamTk {X : Cx} {A : Around} {outer : List Env} {s : Shared} {H : Hp} {E : XK} {scope : Scope} {f c' : Addr} : L2N.Takes (lamN X A outer s H E scope f c') (fun cls d _ H => E cls d H) := L2N.takes_of (E := E) rfl rfl rfl rfl
/-- the name of a def's lambdas -/
def lamQ (ql : Str) : Str := (envOfC ql { kind := .function, names := [], isGenerator := false, isCoroutine := false } 0 0 .none).qual ++ "<lambda>"
/-- the body's code object is known -/
theorem fm_ofC {P : Program} {w : World} {K : PySem.W.Frag} {mg : Str → Option Value} {base : Heap} {k : Nat} {f c : Addr} {fd : FuncData} {ps N : List Str} {m : MS} {x qual : Str} {params : Arguments} {body : List Stmt} {scope : Scope} {dvs : List V} {kws : List (Str × V)}
    (F : FunD K x qual params body scope dvs kws f fd) (S : FnScope N ps scope) (hc : fd.code = .ref c)
    (hb : ∀ (cdv : Value) (A : Around) (outer : List Env) (s : Shared) (H : Hp) (E : XK), cdv = .ref c → Room k (A.deeper (envOfC qual scope s.heap.objs.size f cdv)) → A.guards = some [] →
      PSsm (cxOf (L2N.CX P w) P w K mg base N qual scope f cdv A outer s H E) (fun cls d _ H' => E cls d H') body m) : FM P w K mg base (k + 1) f fd ps (runB N.length m) := by
  obtain ⟨oc, od, dV, kV, doc, pm, an, cd, ct, osl, rfl, lk, hcd, _, _⟩ := id F.ex
  obtain rfl : cd = .ref c := hc
  refine ⟨fun vs H Q E h => h.1, fun A outer s H args us vs Q E room hgd e0 bind rel want => ?_⟩
  refine run_ofS (CX := L2N.CX P w) lk hcd S room e0 bind rel want.1 fun hr' => ⟨_, (hb _ A outer s H E rfl hr' hgd).ps, ?_⟩
  obtain ⟨hl, ι, ws, AH, r, sr, h⟩ := want
  exact ⟨ι, _, AH, start_re r, sr, out_runB (E := E) h⟩
def cdB (K : PySem.W.Frag) (f c : Addr) : Bool := match K.lookup f with
  | some ⟨_, _, .func fd, _⟩ => decide (fd.code = .ref c)
  | _ => false
theorem cd_of {K : PySem.W.Frag} {f c : Addr} {fd : FuncData} {x qual : Str} {params : Arguments} {body : List Stmt} {scope : Scope} {dvs : List V} {kws : List (Str × V)} (F : FunD K x qual params body scope dvs kws f fd) (h : cdB K f c = true) : fd.code = .ref c := by
  obtain ⟨oc, od, dV, kV, doc, pm, an, cd, ct, osl, rfl, lk, hcd, _, _⟩ := id F.ex
  unfold cdB at h
  rw [lk] at h
  exact of_decide_eq_true h
end Z
/-! The end of a law's row that makes lambdas. -/
namespace Z
open PySem PySem.Spec PyProof.Rows L2 LamX
def tabsH (tl : List (Addr × Str)) : Hv := tl.map fun p => .tab p.1 p.2
/-- F answers True at that script, where the tables stand -/
def WinT (F : List W → M W) (tl : List (Addr × Str)) (ns : List Int) : Prop := ∃ h', F [.cl (ns.map W.int)] (tabsH tl) = some (.ok (.bl true), h')
section
variable {P : Program} {w : World} {K : PySem.W.Frag} {mg mb : Str → Option Value} {k : Nat} {fa a : Addr} {fd : FuncData} {x : Str} {F : List W → M W} {st : Shared} {vals : List Value} {ns : List Int} {tl : List (Addr × Str)} {cs : List (Addr × Addr)}
theorem won_ofT (inK : K.In st.heap) (gl : st.heap.Ns mainGlobals mg) (bl : st.heap.Ns builtinsNs mb) (bb : ∀ y : Str, y ≠ "__name__" → mb y = bootBuiltins y) (nl : st.heap.NoLimit) (ng : st.gens = #[])
    (hbm : ∃ (bm : Addr) (ob : Obj), mg "__builtins__" = some (.ref bm) ∧ bm ≠ builtinsNs ∧ st.heap.get? bm = some ob ∧ ob.cls = .type "module" ∧ ob.dict = some builtinsNs ∧ ob.data = .plain)
    (ob : st.heap.get? a = some { cls := .type "list", data := .seq vals.toArray }) (hi : IntsAre vals ns) (hl : ns.length ≤ sizeLine) (hr : Room k callerA)
    (nd : (tl.map (·.1)).Nodup) (hcs : ∀ p ∈ tl, ∃ c, (c, p.1) ∈ cs) (hcs2 : ∀ p ∈ cs, ∃ q, (p.2, q) ∈ tl) (eT : ∀ p ∈ cs, st.heap.get? p.2 = some { cls := .none, data := .fields #[] }) (nT : ∀ p ∈ cs, K.lookup p.2 = none) (C : ∀ p ∈ cs, PySem.W.CodeHd st.heap p.1 p.2)
    (G : ∀ base : Heap, K.In base → base.Ns mainGlobals mg → (∀ p ∈ cs, TabB base mg p.1 p.2) → FM P w K mg base k fa fd [x] F) (hb : ∀ (s : Shared) (u : Value), BindsTo s fd ⟨[u], []⟩ [(x, u)]) (win : WinT F tl ns) : Won P w st fa a := by
  have rvals : Vals (ns.map V.int) vals := vals_ints hi
  obtain ⟨hEnd, win⟩ := win
  have isT : ∀ b, b ∈ tl.map (·.1) → st.heap.get? b = some { cls := .none, data := .fields #[] } ∧ K.lookup b = none := fun b hb => by
    obtain ⟨p, hp, rfl⟩ := List.mem_map.mp hb
    obtain ⟨c, hc⟩ := hcs p hp
    exact ⟨eT _ hc, nT _ hc⟩
  have aT : a ∉ tl.map (·.1) := fun z => by
    have q := (isT a z).1
    rw [ob] at q
    cases q
  have inT : ∀ p ∈ cs, p.2 ∈ tl.map (·.1) := fun p hp => by
    obtain ⟨q, hq⟩ := hcs2 p hp
    exact List.mem_map.mpr ⟨_, hq, rfl⟩
  have step : ∀ H : Hp, CL K H a (ns.map V.int) → HOk P w H st.heap → (∀ b, H b ≠ none → (b = a ∧ K.lookup a = none ∧ ∃ o xs, H b = some (.frz o (.lst xs))) ∨ b ∈ tl.map (·.1)) → (∀ b ∈ tl.map (·.1), H b = some (.tbl #[])) → Won P w st fa a := by
    intro H cl ok one tb
    have lone : ∀ {b : Addr} {o : Obj}, st.heap.get? b = some o → (((∀ vs n, o.data ≠ .seq vs n) ∧ o.data ≠ .fields #[]) ∨ K.lookup b = some o) → H b = none := by
      intro b o e h
      by_cases q : H b = none
      · exact q
      · rcases one b q with ⟨rfl, hk, _⟩ | hT
        · rw [ob] at e; cases e
          rcases h with h | h
          · exact absurd rfl (h.1 _ _)
          · rw [hk] at h; cases h
        · obtain ⟨g1, g2⟩ := isT b hT
          rw [g1] at e; cases e
          rcases h with h | h
          · exact absurd rfl h.2
          · rw [g2] at h; cases h
    have loneD : ∀ {b : Addr} {o : Obj} {es : Array DictEntry} {ep : Nat}, st.heap.get? b = some o → o.data = .dict es ep → H b = none := fun {b o es ep} e d => lone e (.inl ⟨fun vs n z => (by rw [d] at z; cases z), fun z => (by rw [d] at z; cases z)⟩)
    have inB : K.In (hidT st.heap H) := fun b o e => hidT_get (inK b o e) (lone (inK b o e) (.inr e))
    have ns_ : ∀ {b : Addr} {m : Str → Option Value}, st.heap.Ns b m → (hidT st.heap H).Ns b m := fun ⟨o, es, ep, e, d, r⟩ => ⟨o, es, ep, hidT_get e (loneD e d), d, r⟩
    have md : Mod K mg (hidT st.heap H) := by
      obtain ⟨mc, n1, n2⟩ := nl
      exact ⟨inB, ns_ gl, ⟨mb, ns_ bl, bb⟩, ⟨mc, ns_ n1, n2⟩⟩
    have TB : ∀ p ∈ cs, TabB (hidT st.heap H) mg p.1 p.2 := fun p hp => by
      refine ⟨?_, ?_, fun z => ?_⟩
      · obtain ⟨o, us, file, tf, flags, tg, inF, text, tt, e1, r1, r2, r3, rest⟩ := C p hp
        refine ⟨o, us, file, tf, flags, tg, inF, text, tt, hidT_get e1 (lone e1 (.inl ⟨fun vs n z => ?_, fun z => ?_⟩)), r1, r2, r3, rest⟩
        · rw [r2] at z; cases z
        · rw [r2] at z; cases z; simp at r3
      · obtain ⟨bm, om, b1, b2, b3, b4, b5, b6⟩ := hbm
        refine ⟨bm, om, b1, b2, fun q => ?_, fun q => ?_, hidT_get b3 (lone b3 (.inl ⟨fun vs n z => ?_, fun z => ?_⟩)), b4, b5, b6⟩
        · obtain ⟨o, es, ep, e, hd, _⟩ := gl
          rw [q, e] at b3; cases b3; rw [hd] at b6; cases b6
        · rw [q, eT p hp] at b3; cases b3; cases b6
        · rw [b6] at z; cases z
        · rw [b6] at z; cases z
      · obtain ⟨o, es, ep, e, hd, _⟩ := gl
        rw [z, eT p hp] at e; cases e; cases hd
    have start : Env0 P w K mg (hidT st.heap H) callerA [] st H := by
      refine ⟨rfl, md, fun b o e => of_hidT e, Nat.le_of_eq (hidT_size _ _), trivial, ?_, ok, .of_eq ng⟩
      intro b hb
      exact absurd (show b ∈ ([] : List Addr) from hb) (by simp)
    have sr : Sr K (tl.map (·.1)) H (tabsH tl) := by
      refine ⟨by simp [tabsH], nd, fun n b o h1 h2 => ?_⟩
      unfold tabsH at h2
      rw [List.getElem?_map] at h1 h2
      cases ht : tl[n]? with
      | none => rw [ht] at h1; cases h1
      | some p =>
        rw [ht] at h1 h2
        cases h1; cases h2
        exact ⟨rfl, TabS.nil (tb _ (List.mem_map.mpr ⟨p, List.mem_of_getElem? ht, rfl⟩))⟩
    have rw1 : RWs K (tl.map (·.1)) H [.cl (ns.map W.int)] [.ref a] := RWs.mk (show ∃ b vs, V.ref a = .ref b ∧ CL K H b vs ∧ RWs K (tl.map (·.1)) H (ns.map W.int) vs from ⟨a, _, rfl, cl, rws_ints ns⟩) RWs.nl
    have sp : spM K [x].length F [.ref a] H (fun v _ => v = .bl true) (fun _ _ _ => False) := by
      refine ⟨rfl, _, _, _, rw1, sr, ?_⟩
      rw [win]
      exact fun ι' v H' l s r => r
    have run := (G _ inB (ns_ gl) TB).go callerA [] st H ⟨[.ref a], []⟩ [.ref a] [.ref a] _ _ hr rfl start (hb st (.ref a)) (.cons rfl .nil) sp
    refine codeAny_mono run fun r t h => ?_
    cases r with
    | error e =>
      obtain ⟨_, _, _, _, _, _, _, _, _, _, _, _, hF⟩ := id h
      first | exact hF.elim | exact hF.2.elim
    | ok fl =>
      cases fl with
      | next => exact h.elim
      | brk => exact h.elim
      | cont => exact h.elim
      | ret u =>
        obtain ⟨v, H2, os, bare, un, ok2, rv, hv⟩ := h
        have hv : v = .bl true := hv
        subst hv
        cases (show u = Value.bool true from rv)
        have stay : ∀ b o, b ∉ tl.map (·.1) → st.heap.get? b = some o → t.heap.get? b = some o := fun b o nb e => by
          by_cases q : H b = none
          · exact un.keep b o e q (fun z => absurd (show b ∈ ([] : List Addr) from z) (by simp)) (by simp)
          · rcases one b q with ⟨_, _, c, xs, z⟩ | z
            · have l1 := (ok b _ z).1
              rw [e] at l1
              cases l1
              exact (ok2 b _ (un.frzs b _ _ z)).1
            · exact absurd z nb
        have more : ∀ b ∈ tl.map (·.1), ∃ ms : Array Value, t.heap.get? b = some { cls := .none, data := .fields ms } := fun b hb => by
          obtain ⟨ms, z⟩ := un.tbls b #[] (tb b hb)
          exact ⟨_, ok2 b _ z⟩
        refine ⟨rfl, ⟨fun b o e => ?_, fun b o e => ?_⟩, os, bare⟩
        · by_cases hb : b ∈ tl.map (·.1)
          · obtain ⟨ms, hm⟩ := more b hb
            obtain ⟨p, hp, rfl⟩ := List.mem_map.mp hb
            obtain ⟨c, hc⟩ := hcs p hp
            have g1 := (isT _ hb).1
            rw [g1] at e
            cases e
            exact .inr (.inl ⟨((C _ hc).tab (eT _ hc)).isCodeTable, rfl, #[], ms, rfl, by rw [Array.empty_append]; exact hm⟩)
          · exact .inl (stay b o hb e)
        · by_cases hb : b ∈ tl.map (·.1)
          · obtain ⟨ms, hm⟩ := more b hb
            exact ⟨_, hm⟩
          · exact ⟨o, stay b o hb e⟩
  by_cases hk : K.lookup a = none
  · let H : Hp := fun b => if b = a then some (.frz { cls := .type "list", data := .seq vals.toArray } (.lst (ns.map V.int))) else if b ∈ tl.map (·.1) then some (.tbl #[]) else none
    have here : H a = some (.frz { cls := .type "list", data := .seq vals.toArray } (.lst (ns.map V.int))) := if_pos rfl
    have only : ∀ b u, H b = some u → (b = a ∧ u = .frz { cls := .type "list", data := .seq vals.toArray } (.lst (ns.map V.int))) ∨ (b ∈ tl.map (·.1) ∧ u = .tbl #[]) := fun b u z => by
      by_cases e : b = a
      · subst e; rw [here] at z; cases z; exact .inl ⟨rfl, rfl⟩
      · have z2 : (if b ∈ tl.map (·.1) then some (HO.tbl #[]) else none) = some u := (if_neg e).symm.trans z
        by_cases e2 : b ∈ tl.map (·.1)
        · rw [if_pos e2] at z2; cases z2; exact .inr ⟨e2, rfl⟩
        · rw [if_neg e2] at z2; cases z2
    refine step H (.inl ⟨_, here⟩) (fun b u z => ?_) (fun b q => ?_) fun b hb => (if_neg (show ¬ b = a from fun e => aT (e ▸ hb))).trans (if_pos hb)
    · rcases only b u z with ⟨rfl, rfl⟩ | ⟨e, rfl⟩
      · exact ⟨ob, by rw [List.length_map]; exact hl, vals, _, rvals, ob⟩
      · exact (isT b e).1
    · obtain ⟨u, z⟩ := Option.ne_none_iff_exists'.mp q
      rcases only b u z with ⟨rfl, rfl⟩ | ⟨e, _⟩
      · exact .inl ⟨rfl, hk, _, _, z⟩
      · exact .inr e
  · obtain ⟨o, e⟩ := Option.ne_none_iff_exists'.mp hk
    have e2 := inK a o e
    rw [ob] at e2
    cases e2
    have sz : vals.toArray.size ≤ sizeLine := by rw [List.size_toArray, hi.length]; exact hl
    refine step (fun b => if b ∈ tl.map (·.1) then some (.tbl #[]) else none) (.inr ⟨_, vals.toArray, _, e, rfl, rfl, rfl, sz, by simpa using rvals⟩) (fun b u z => ?_) (fun b q => ?_) fun b hb => if_pos hb
    · by_cases e2 : b ∈ tl.map (·.1)
      · have z := (if_pos e2).symm.trans z
        cases z; exact (isT b e2).1
      · have z := (if_neg e2).symm.trans z
        cases z
    · by_cases e2 : b ∈ tl.map (·.1)
      · exact .inr e2
      · exact absurd (if_neg e2) q
end
/-- the end of a law's row -/
theorem walk_GT {l : PySem.W.OpenLaw} {n k : Nat} {q : Program} {loose : List Str} {XP : (Str → Option Value) → Heap → Prop} {YP : World → Heap → Prop} {d : DefRec} {x : Str}
    (hn : l.most = some n) (hn2 : n ≤ sizeLine) (hdf : d.params.defaults = []) (hr : Room k callerA)
    (F : ∀ (w : World) (mg : Str → Option Value) (fa : Addr) (h : Heap), YP w h → h.Ns mainGlobals mg → mg d.name = some (.ref fa) →
      ∃ (K : PySem.W.Frag) (fd : FuncData) (f : List W → M W) (tl : List (Addr × Str)) (cs : List (Addr × Addr)), K.In h ∧ ((tl.map (·.1)).Nodup ∧ (∀ p ∈ tl, ∃ c, (c, p.1) ∈ cs) ∧ (∀ p ∈ cs, ∃ q, (p.2, q) ∈ tl) ∧ (∀ p ∈ cs, h.get? p.2 = some { cls := .none, data := .fields #[] }) ∧ (∀ p ∈ cs, K.lookup p.2 = none) ∧ ∀ p ∈ cs, PySem.W.CodeHd h p.1 p.2) ∧
        (∀ (s : Shared) (u : Value), BindsTo s fd ⟨[u], []⟩ [(x, u)]) ∧ (∀ ns : List Int, ns.length ≤ n → WinT f tl ns) ∧
        ∀ base : Heap, K.In base → base.Ns mainGlobals mg → (∀ p ∈ cs, TabB base mg p.1 p.2) → FM l.prog w K mg base k fa fd [x] f) : PySem.W.WalkO q loose XP YP l.row.toRowW d [] (fun f vs => PySem.call f vs) := by
  refine Att.attach_call hn hdf fun w s0 s1 mg mb fa o pm cd doc a vals ns G Y ho hd hcd hmg hobj hints hlen ng => ?_
  obtain ⟨K, fd, f, tl, cs, inK, ⟨t1, t2, t3, t4, t5, t6⟩, hb, win, hF⟩ := F w mg fa _ Y G.T.g hmg
  exact won_ofT inK G.T.g G.T.b G.T.builtins G.T.nolimit ng G.T.bmain hobj hints (Nat.le_trans hlen hn2) hr t1 t2 t3 t4 t5 t6 hF hb (win ns hlen)
end Z
/-! list.index of texts. -/
namespace Z
open PySem L2
def posS (s : Str) (bs : List Str) : Option Nat := bs.findIdx? fun u => u == s
def indexS (us : List W) (s : Str) : M W := fun h => match asSs us with
  | some bs => match posS s bs with
    | some j => some (.ok (.int (j : Int)), h)
    | none => none
  | none => none
def index1 (us : List W) : W → M W := fun w h => match asS w with
  | some s => indexS us s h
  | none => none
def indexM : W → List W → M W := fun x ws h => match seqL h x with
  | some us => one (index1 us) ws h
  | none => none
section
variable {X : Cx} {Wx : WX} {p apos cpos : Pos} {o e : Expr} {mo : ME W} {me : ME (List W)}
theorem index1_inv {K : PySem.W.Frag} {Xx : AX → Option Addr → Hp → Prop} {ι : List Addr} {H : Hp} {AH : Hv} {us : List W} {w : W} {Q : VK} (o : Out K (RW K) Xx ι H (index1 us w AH) Q) : ∃ t bs j, w = .str t ∧ us = bs.map W.str ∧ posS t bs = some j ∧ Out K (RW K) Xx ι H (some (.ok (.int (j : Int)), AH)) Q := by
  unfold index1 at o
  cases e2 : asS w with
  | none => rw [e2] at o; exact o.elim
  | some t =>
    rw [e2] at o
    have o : Out K (RW K) Xx ι H (indexS us t AH) Q := o
    unfold indexS at o
    cases e3 : asSs us with
    | none => rw [e3] at o; exact o.elim
    | some bs =>
      rw [e3] at o
      have o : Out K (RW K) Xx ι H (match posS t bs with
        | some j => some (.ok (.int (j : Int)), AH)
        | none => none) Q := o
      cases e4 : posS t bs with
      | none => rw [e4] at o; exact o.elim
      | some j =>
        rw [e4] at o
        exact ⟨t, bs, j, asS_eq e2, asSs_eq e3, e4, o⟩
theorem t_index : MtMM X "list.index" indexM := ⟨rIndex X.K, mt_index, by
  intro Xx ι AH H w ws v vs Q s rv rs o
  unfold indexM at o
  cases e : seqL AH w with
  | none => rw [e] at o; exact o.elim
  | some us =>
    rw [e] at o
    obtain ⟨a, ys, rfl, hq, ry⟩ := seqL_ok s rv e
    obtain ⟨w2, z, rfl, rz, o⟩ := one_inv rs o
    obtain ⟨t, bs, j, rfl, rfl, e4, o⟩ := index1_inv o
    rw [rw_str rz]
    have hy := rws_map W.str V.str (fun a v r => rw_str r) ry
    subst hy
    unfold posS at e4
    obtain ⟨hj, h1, h2⟩ := List.findIdx?_eq_some_iff_getElem.mp e4
    refine ⟨a, bs.map V.str, .str t, j, .str bs[j], rfl, rfl, hq, rfl, ?_, ?_, h1, ?_, o ι _ H Le.refl s rfl⟩
    · simp [List.all_eq_true, flatV]
    · simp [hj]
    · intro m z' hm hz'
      rw [List.getElem?_map] at hz'
      have hm2 : m < bs.length := by omega
      rw [List.getElem?_eq_getElem hm2] at hz'
      cases hz'
      have h3 : ¬ (bs[m] == t) = true := by simpa using h2 m hm
      show (bs[m] == t) = false
      exact Bool.eq_false_iff.mpr h3⟩
theorem m_index (ho : PEm X Wx o mo) (ha : PAm X Wx [e] me) (hbase : attributeBase o "index" X.env (eval o X.env) = eval o X.env := by rfl)
    (hfew : ((backTo cpos (starEach [e] X.env)).all (fun x => !x.1) && (backToKw cpos (keywordEach [] X.env)).all (fun x => x.1.isSome)
      && decide ([e].length + ([] : List Keyword).length + (if ([] : List Keyword).isEmpty then 0 else 1) < 30)) = true := by rfl)
    (hline : (apos.endLine == cpos.line) = true := by rfl) (hs : starEach [e] X.env = (false, eval e X.env) :: starEach [] X.env := by rfl) (hplain : (backTo cpos (starEach [] X.env)).any (·.1) = false := by rfl) :
    PEm X Wx (.Call (.Attribute o "index" apos) [e] [] cpos) (mMb .lst indexM mo me) :=
  m_bm (t := .lst) PySem.F.plainAttrs_list PySem.F.slot_list_index PySem.F.type_list_index t_index ho ha hbase hfew hline hs hplain
/-- int of a text -/
def intZ (z : Str) : M W := fun h => match PySem.intText? z with
  | some n => if z.length ≤ 640 then some (.ok (.int n), h) else none
  | none => none
def intSM : List W → M W := one fun w h => match asS w with
  | some z => intZ z h
  | none => none
theorem c_intS : CallM X (.type "int") intSM := ⟨_, call_int_str, one_ok fun Xx ι AH H w v Q s r o => by
  cases e1 : asS w with
  | none => simp only [e1] at o; exact o.elim
  | some z =>
    have hw := asS_eq e1
    subst hw
    have o : Out X.K (RW X.K) Xx ι H (intZ z AH) Q := o
    unfold intZ at o
    cases e2 : PySem.intText? z with
    | none => rw [e2] at o; exact o.elim
    | some n =>
      rw [e2] at o
      have o : Out X.K (RW X.K) Xx ι H (if z.length ≤ 640 then some (.ok (.int n), AH) else none) Q := o
      obtain ⟨c, o⟩ := out_ite o
      exact ⟨z, n, by rw [rw_str r], e2, c, o ι _ H Le.refl s rfl⟩⟩
end
end Z
/-! `*a, b = text` -/
namespace Z
open PySem PyProof.Rows L2
section
variable {prog : Program} {w : World} {A : Around} {E : Value → Shared → Prop} {s : Shared}
theorem unpackStar_str {x : Str} {t : Tok} {Q : List Value → Shared → Prop} (hh : A.handled = none) (h1 : 1 ≤ x.cps.size) (hn : x.cps.size ≤ sizeLine)
    (hQ : ∀ (s' : Shared) (acc : Array Value), (∀ b o, s.heap.get? b = some o → s'.heap.get? b = some o) → s'.gens = s.gens → s'.os = s.os → ItemsOf (SignAt x) acc x.cps.size →
      Q ([.ref s'.heap.objs.size] ++ acc.toList.drop (x.cps.size - 1)) { s' with heap := s'.heap.push { cls := .type "list", data := .seq (acc.toList.take (x.cps.size - 1)).toArray } }) :
    wpAny (model prog w) A (unpackItems (.str x t) 2 (some 0)) Q E s := by
  have fin : ∀ (o : Obj) (s' : Shared) (acc : Array Value), (∀ b ob, b ≠ s.heap.objs.size → (s.heap.push o).get? b = some ob → s'.heap.get? b = some ob) → s'.gens = s.gens → s'.os = s.os → ItemsOf (SignAt x) acc x.cps.size →
      wpAny (model prog w) A (do
        if acc.toList.length < 1 then
          rule "unpack.star.too-few"
          raiseError "ValueError" s!"not enough values to unpack (expected at least {2 - 1}, got {0 + acc.toList.length})"
        return [] ++ [← newList (acc.toList.take (acc.toList.length - 1))] ++ acc.toList.drop (acc.toList.length - 1)) Q E s' := by
    intro o s' acc hk hg ho hacc
    have hl : acc.toList.length = x.cps.size := by rw [Array.length_toList, hacc.1]
    rw [if_neg (by omega), hl]
    refine wpAny_bind (wpAny_newList ?_ (by rw [List.length_take]; omega))
    exact wpAny_pure (hQ s' acc (fun b ob e => hk b ob (fun hb => Nat.lt_irrefl _ (hb ▸ Heap.lt_size e)) (Heap.get?_push_of_some _ e)) hg ho hacc)
  unfold unpackItems
  refine wpAny_bind ?_
  unfold notIterableAtAll
  refine wpAny_bind (wpAny_specialOf (typeIs_str s x t) F.slot_str_iter.lookup ?_)
  refine wpAny_pure ?_
  simp only [Bool.false_eq_true, if_false]
  cases ha : x.cps.all (· < 128)
  · refine wpAny_bind (wpAny_holding (wpAny_pyIter_wide ha ?_))
    refine wpAny_bind (wpAny_holding (wpAny_pure ?_))
    rw [if_neg (by simp)]
    refine wpAny_bind (wpAny_holding (wpAny_collect_strIter hh (.inr rfl) ⟨_, Heap.get?_push_size _ rfl, rfl, rfl⟩ (fun s' acc hk hg hd ho hacc => ?_) hn))
    exact fin _ s' acc hk hg ho hacc
  · refine wpAny_bind (wpAny_holding (wpAny_pyIter_ascii ha ?_))
    refine wpAny_bind (wpAny_holding (wpAny_pure ?_))
    rw [if_neg (by simp)]
    refine wpAny_bind (wpAny_holding (wpAny_collect_strIter hh (.inl rfl) ⟨_, Heap.get?_push_size _ rfl, rfl, rfl⟩ (fun s' acc hk hg hd ho hacc => ?_) hn))
    exact fin _ s' acc hk hg ho hacc
end
def sgs (z : Str) : List V := z.cps.toList.map fun c => .str ⟨#[c]⟩
theorem sgs_vals {z : Str} {acc : Array Value} (its : ItemsOf (SignAt z) acc z.cps.size) : Vals (sgs z) acc.toList := by
  have gen : ∀ (l : List Nat) (us : List Value), us.length = l.length → (∀ (i : Nat) (v : Value), us[i]? = some v → ∃ k u, l[i]? = some k ∧ v = Value.str ⟨#[k]⟩ u) → Vals (l.map fun c => V.str ⟨#[c]⟩) us := by
    intro l
    induction l with
    | nil =>
      intro us hl _
      rw [List.length_eq_zero_iff.mp hl]; exact .nil
    | cons k l ih =>
      intro us hl hx
      cases us with
      | nil => cases hl
      | cons u us =>
        obtain ⟨k', t', e1, e2⟩ := hx 0 u rfl
        have : k = k' := by simpa using e1
        subst this
        exact .cons ⟨t', e2⟩ (ih us (by simpa using hl) fun i v hv => by simpa using hx (i + 1) v (by simpa using hv))
  refine gen _ _ (by simpa using its.1) fun i v hv => ?_
  obtain ⟨k, u, e1, e2⟩ := its.2 i v (by simpa using hv)
  exact ⟨k, u, by simpa using e1, e2⟩
def gStar (tg : TGs) : TG := fun v σ H Q => ∃ z : Str, v = .str z ∧ 1 ≤ z.cps.size ∧ z.cps.size ≤ sizeLine ∧ ∀ p, H p = none → tg ([.ref p] ++ (sgs z).drop (z.cps.size - 1)) σ (upd H p (.lst ((sgs z).take (z.cps.size - 1)))) Q
section
variable {X : Cx} {a b : Expr} {sp pos : Pos} {k : Nat}
theorem pg_star {tg : TGs} (hc : X.calm = true) (h : PGs X [a, b] tg)
    (hm : (assignEach [.Starred a sp, b] X.env).map (·.2) = (assignEach [a, b] X.env).map (·.2) := by rfl) (hl : (assignEach [.Starred a sp, b] X.env).length = 2 := by rfl) (hst : (assignEach [.Starred a sp, b] X.env).findIdx? (·.1) = some 0 := by rfl) :
    PG X (.Tuple [.Starred a sp, b] k pos) (gStar tg) := by
  refine ⟨fun pins s σ H v u Q I r hw => ?_⟩
  obtain ⟨z, rfl, h1, hn, hw⟩ := hw
  obtain ⟨t, rfl⟩ := (show ∃ t, u = Value.str z t from r)
  rw [assign_Tuple]
  refine wpAny_bind (wpAny_standAt ?_)
  unfold unpack
  rw [hl, hst]
  refine wpAny_bind (wpAny_holding (unpackStar_str (I.ok.hd hc) h1 hn fun s' acc hk hg ho its => ?_))
  rw [hm]
  have I1 : Inv X pins σ H s' := I.call' (ch := []) ho (Un.kept hk) (I.hok.kept hk) (by rw [hg]; exact I.bare) (fun b hb => by cases hb)
  have vs := sgs_vals its
  have hz : ((sgs z).take (z.cps.size - 1)).length ≤ sizeLine := by
    rw [List.length_take]; omega
  have I2 := I1.lnew (t' := s'.toks) (vs.take (z.cps.size - 1)) hz
  exact h.run pins _ σ _ _ _ Q I2 (.cons (show RelV (.ref s'.heap.objs.size) (Value.ref s'.heap.objs.size) from rfl) (vs.drop (z.cps.size - 1))) (hw _ I1.fresh)
def gStS (g : List W → MS) (w : W) : MS := fun e h => match asS w with
  | some z => if 1 ≤ z.cps.size ∧ z.cps.size ≤ sizeLine then g ([.ref h.length] ++ (signs z).drop (z.cps.size - 1)) e (h ++ [.lst ((signs z).take (z.cps.size - 1))]) else none
  | none => none
theorem g_star {g : List W → MS} (hc : X.calm = true) (h : PGsm X [a, b] g)
    (hm : (assignEach [.Starred a sp, b] X.env).map (·.2) = (assignEach [a, b] X.env).map (·.2) := by rfl) (hl : (assignEach [.Starred a sp, b] X.env).length = 2 := by rfl) (hst : (assignEach [.Starred a sp, b] X.env).findIdx? (·.1) = some 0 := by rfl) :
    PGm X (.Tuple [.Starred a sp, b] k pos) (gStS g) :=
  ⟨PG_imp (pg_star hc h.pg hm hl hst) fun v σ H Q ⟨ι, e, AH, w, re, s, r, o⟩ => by
    unfold gStS at o
    cases e1 : asS w with
    | none => rw [e1] at o; exact o.elim
    | some z =>
      rw [e1] at o
      cases asS_eq e1
      have o : OutS X.K (fun _ _ _ _ => False) ι H (if 1 ≤ z.cps.size ∧ z.cps.size ≤ sizeLine then g ([.ref AH.length] ++ (signs z).drop (z.cps.size - 1)) e (AH ++ [.lst ((signs z).take (z.cps.size - 1))]) else none) { nx := Q, rt := fun _ _ => False } := o
      by_cases c : 1 ≤ z.cps.size ∧ z.cps.size ≤ sizeLine
      · rw [if_pos c] at o
        refine ⟨z, by rw [rw_str r], c.1, c.2, fun p hp => ?_⟩
        have le : Le X.K ι H (ι ++ [p]) (upd H p (.lst ((sgs z).take (z.cps.size - 1)))) := Le.more hp
        have rs : RWs X.K ι H (signs z) (sgs z) := rws_ofmap (fun c => W.str ⟨#[c]⟩) (fun c => V.str ⟨#[c]⟩) (fun a => (show V.str ⟨#[a]⟩ = V.str ⟨#[a]⟩ from rfl)) z.cps.toList
        refine ⟨ι ++ [p], e, _, _, re.mono le, s.alloc (o := .lst ((signs z).take (z.cps.size - 1))) hp ⟨_, upd_same, RWs.mono le _ _ (rs.take _)⟩, ?_, o.le le⟩
        exact RWs.mk (show ∃ a, (ι ++ [p])[AH.length]? = some a ∧ V.ref p = .ref a from ⟨p, by rw [← s.len]; simp, rfl⟩) (RWs.mono le _ _ (rs.drop _))
      · rw [if_neg c] at o; exact o.elim⟩
theorem st_star {g : List W → MS} (a : StoresL g) : Stores (gStS g) := fun w e h f e' h' q => by
  unfold gStS at q
  cases e1 : asS w with
  | none => rw [e1] at q; cases q
  | some z =>
    rw [e1] at q
    have q : (if 1 ≤ z.cps.size ∧ z.cps.size ≤ sizeLine then g ([.ref h.length] ++ (signs z).drop (z.cps.size - 1)) e (h ++ [.lst ((signs z).take (z.cps.size - 1))]) else none) = some (f, e', h') := q
    by_cases c : 1 ≤ z.cps.size ∧ z.cps.size ≤ sizeLine
    · rw [if_pos c] at q; exact a _ _ _ _ _ _ q
    · rw [if_neg c] at q; cases q
end
end Z
namespace K02
open PySem PySem.Spec PyProof.Rows L2 Z
/-! ### the text -/
def top (i : Nat) : Stmt := PySem.Challenge.pw_wirenames_k02_next_names.main.body.getD i (.Pass ⟨0, 0, 0, 0⟩)
abbrev s_law_bag : Stmt := top 36
abbrev s_law_take : Stmt := top 37
abbrev s_law_drawn_name : Stmt := top 40
abbrev s_law_good_name : Stmt := top 39
abbrev s_law_due : Stmt := top 43
abbrev s_is_name : Stmt := top 32
abbrev s_look_name : Stmt := top 33
abbrev s_next_name : Stmt := top 34
abbrev s_law_which : Stmt := top 38
abbrev s_law_next : Stmt := top 42
abbrev s_law_odd_name : Stmt := top 41
abbrev s_law : Stmt := top 44
abbrev FnP (K : PySem.W.Frag) (x ql : Str) (st : Stmt) (kws : List (Str × V)) (f : Addr) (fd : FuncData) : Prop := FunD K x ql (defArgs st) (defBody st) (defScope st) [] kws f fd
structure Ad where
  a_Came : Addr
  a_Claimed : Addr
  a_Due : Addr
  a_Early : Addr
  a_IsOn : Addr
  a_NoBounds : Addr
  a_NoClaim : Addr
  a_NoHand : Addr
  a_NoHands : Addr
  a_NoLess : Addr
  a_NoLetter : Addr
  a_NoMark : Addr
  a_NoName : Addr
  a_NoNext : Addr
  a_NoPaper : Addr
  a_NoRule : Addr
  a_NoSaying : Addr
  a_NoScript : Addr
  a_NoTries : Addr
  a_NoWire : Addr
  a_NotEmpty : Addr
  a_NotOn : Addr
  a_Owed : Addr
  a_SameWire : Addr
  a_TooMany : Addr
  a_WireError : Addr

def dsI (A : Ad) : List Addr := []
def tabI (A : Ad) : ITab := []
def dsX (A : Ad) : List Addr := [A.a_NoName, A.a_NoNext]
def tabX (A : Ad) : ITab := [(.ref A.a_NoName, .ref A.a_Came, false), (.ref A.a_NoName, .ref A.a_Claimed, false), (.ref A.a_NoName, .ref A.a_Due, false), (.ref A.a_NoName, .ref A.a_Early, false), (.ref A.a_NoName, .ref A.a_IsOn, false), (.ref A.a_NoName, .type "LookupError", false), (.ref A.a_NoName, .ref A.a_NoBounds, false), (.ref A.a_NoName, .ref A.a_NoClaim, false), (.ref A.a_NoName, .ref A.a_NoHand, false), (.ref A.a_NoName, .ref A.a_NoHands, false), (.ref A.a_NoName, .ref A.a_NoLess, false), (.ref A.a_NoName, .ref A.a_NoLetter, false), (.ref A.a_NoName, .ref A.a_NoMark, false), (.ref A.a_NoName, .ref A.a_NoName, true), (.ref A.a_NoName, .ref A.a_NoNext, false), (.ref A.a_NoName, .ref A.a_NoPaper, false), (.ref A.a_NoName, .ref A.a_NoRule, false), (.ref A.a_NoName, .ref A.a_NoSaying, false), (.ref A.a_NoName, .ref A.a_NoScript, false), (.ref A.a_NoName, .ref A.a_NoTries, false), (.ref A.a_NoName, .ref A.a_NoWire, false), (.ref A.a_NoName, .ref A.a_NotEmpty, false), (.ref A.a_NoName, .ref A.a_NotOn, false), (.ref A.a_NoName, .ref A.a_Owed, false), (.ref A.a_NoName, .ref A.a_SameWire, false), (.ref A.a_NoName, .ref A.a_TooMany, false), (.ref A.a_NoName, .type "ValueError", true), (.ref A.a_NoName, .ref A.a_WireError, true), (.ref A.a_NoNext, .ref A.a_Came, false), (.ref A.a_NoNext, .ref A.a_Claimed, false), (.ref A.a_NoNext, .ref A.a_Due, false), (.ref A.a_NoNext, .ref A.a_Early, false), (.ref A.a_NoNext, .ref A.a_IsOn, false), (.ref A.a_NoNext, .type "LookupError", false), (.ref A.a_NoNext, .ref A.a_NoBounds, false), (.ref A.a_NoNext, .ref A.a_NoClaim, false), (.ref A.a_NoNext, .ref A.a_NoHand, false), (.ref A.a_NoNext, .ref A.a_NoHands, false), (.ref A.a_NoNext, .ref A.a_NoLess, false), (.ref A.a_NoNext, .ref A.a_NoLetter, false), (.ref A.a_NoNext, .ref A.a_NoMark, false), (.ref A.a_NoNext, .ref A.a_NoName, false), (.ref A.a_NoNext, .ref A.a_NoNext, true), (.ref A.a_NoNext, .ref A.a_NoPaper, false), (.ref A.a_NoNext, .ref A.a_NoRule, false), (.ref A.a_NoNext, .ref A.a_NoSaying, false), (.ref A.a_NoNext, .ref A.a_NoScript, false), (.ref A.a_NoNext, .ref A.a_NoTries, false), (.ref A.a_NoNext, .ref A.a_NoWire, false), (.ref A.a_NoNext, .ref A.a_NotEmpty, false), (.ref A.a_NoNext, .ref A.a_NotOn, false), (.ref A.a_NoNext, .ref A.a_Owed, false), (.ref A.a_NoNext, .ref A.a_SameWire, false), (.ref A.a_NoNext, .ref A.a_TooMany, false), (.ref A.a_NoNext, .type "ValueError", true), (.ref A.a_NoNext, .ref A.a_WireError, true)]
def tabE (A : Ad) : XTab := [(.ref A.a_NoName, true), (.ref A.a_NoNext, true)]
/-! ### what stands at the top -/
def w_FIGURES : List W := [.str "2", .str "3", .str "4", .str "5", .str "6", .str "7", .str "8", .str "9"]
def v_FIGURES : List He.Dv := [.str "2", .str "3", .str "4", .str "5", .str "6", .str "7", .str "8", .str "9"]
theorem r_FIGURES {K : PySem.W.Frag} {ι : List Addr} {H : Hp} : RWs K ι H w_FIGURES (v_FIGURES.map (He.Dv.v K)) := RWs.mk rfl (RWs.mk rfl (RWs.mk rfl (RWs.mk rfl (RWs.mk rfl (RWs.mk rfl (RWs.mk rfl (RWs.mk rfl (RWs.nl))))))))
structure En (K : PySem.W.Frag) (w : World) (mg : Str → Option Value) where
  ad : Ad
  g_Came : mg "Came" = some (.ref ad.a_Came)
  g_Claimed : mg "Claimed" = some (.ref ad.a_Claimed)
  g_Due : mg "Due" = some (.ref ad.a_Due)
  g_Early : mg "Early" = some (.ref ad.a_Early)
  g_IsOn : mg "IsOn" = some (.ref ad.a_IsOn)
  g_NoBounds : mg "NoBounds" = some (.ref ad.a_NoBounds)
  g_NoClaim : mg "NoClaim" = some (.ref ad.a_NoClaim)
  g_NoHand : mg "NoHand" = some (.ref ad.a_NoHand)
  g_NoHands : mg "NoHands" = some (.ref ad.a_NoHands)
  g_NoLess : mg "NoLess" = some (.ref ad.a_NoLess)
  g_NoLetter : mg "NoLetter" = some (.ref ad.a_NoLetter)
  g_NoMark : mg "NoMark" = some (.ref ad.a_NoMark)
  g_NoName : mg "NoName" = some (.ref ad.a_NoName)
  g_NoNext : mg "NoNext" = some (.ref ad.a_NoNext)
  g_NoPaper : mg "NoPaper" = some (.ref ad.a_NoPaper)
  g_NoRule : mg "NoRule" = some (.ref ad.a_NoRule)
  g_NoSaying : mg "NoSaying" = some (.ref ad.a_NoSaying)
  g_NoScript : mg "NoScript" = some (.ref ad.a_NoScript)
  g_NoTries : mg "NoTries" = some (.ref ad.a_NoTries)
  g_NoWire : mg "NoWire" = some (.ref ad.a_NoWire)
  g_NotEmpty : mg "NotEmpty" = some (.ref ad.a_NotEmpty)
  g_NotOn : mg "NotOn" = some (.ref ad.a_NotOn)
  g_Owed : mg "Owed" = some (.ref ad.a_Owed)
  g_SameWire : mg "SameWire" = some (.ref ad.a_SameWire)
  g_TooMany : mg "TooMany" = some (.ref ad.a_TooMany)
  g_WireError : mg "WireError" = some (.ref ad.a_WireError)
  x_NoName : excKB K ad.a_NoName He.veBase "ValueError.__new__" = true
  x_NoNext : excKB K ad.a_NoNext He.veBase "ValueError.__new__" = true
  i_exc : isxB K (dsX ad) (tabX ad) = true
  e_WireError : exTB K (.ref ad.a_WireError) (tabE ad) = true
  i_kit : (tabI ad).all (kitB1 K) = true
  i_ins : insAll K (dsI ad) (tabI ad) = true
  a_law_bag : Addr
  f_law_bag : FuncData
  d_law_bag : FnP K "_law_bag" "_law_bag" s_law_bag [] a_law_bag f_law_bag
  g_law_bag : mg "_law_bag" = some (.ref a_law_bag)
  a_law_take : Addr
  f_law_take : FuncData
  d_law_take : FnP K "_law_take" "_law_take" s_law_take [] a_law_take f_law_take
  g_law_take : mg "_law_take" = some (.ref a_law_take)
  a_law_drawn_name : Addr
  f_law_drawn_name : FuncData
  d_law_drawn_name : FnP K "_law_drawn_name" "_law_drawn_name" s_law_drawn_name [] a_law_drawn_name f_law_drawn_name
  g_law_drawn_name : mg "_law_drawn_name" = some (.ref a_law_drawn_name)
  a_law_good_name : Addr
  f_law_good_name : FuncData
  d_law_good_name : FnP K "_law_good_name" "_law_good_name" s_law_good_name [] a_law_good_name f_law_good_name
  g_law_good_name : mg "_law_good_name" = some (.ref a_law_good_name)
  a_law_due : Addr
  f_law_due : FuncData
  d_law_due : FnP K "_law_due" "_law_due" s_law_due [] a_law_due f_law_due
  g_law_due : mg "_law_due" = some (.ref a_law_due)
  a_is_name : Addr
  f_is_name : FuncData
  d_is_name : FnP K "is_name" "is_name" s_is_name [] a_is_name f_is_name
  g_is_name : mg "is_name" = some (.ref a_is_name)
  a_look_name : Addr
  f_look_name : FuncData
  d_look_name : FnP K "look_name" "look_name" s_look_name [] a_look_name f_look_name
  g_look_name : mg "look_name" = some (.ref a_look_name)
  a_next_name : Addr
  f_next_name : FuncData
  d_next_name : FnP K "next_name" "next_name" s_next_name [] a_next_name f_next_name
  g_next_name : mg "next_name" = some (.ref a_next_name)
  a_law_which : Addr
  f_law_which : FuncData
  d_law_which : FnP K "_law_which" "_law_which" s_law_which [] a_law_which f_law_which
  g_law_which : mg "_law_which" = some (.ref a_law_which)
  a_law_next : Addr
  f_law_next : FuncData
  d_law_next : FnP K "_law_next" "_law_next" s_law_next [] a_law_next f_law_next
  g_law_next : mg "_law_next" = some (.ref a_law_next)
  a_law_odd_name : Addr
  f_law_odd_name : FuncData
  d_law_odd_name : FnP K "_law_odd_name" "_law_odd_name" s_law_odd_name [] a_law_odd_name f_law_odd_name
  g_law_odd_name : mg "_law_odd_name" = some (.ref a_law_odd_name)
  a_law : Addr
  f_law : FuncData
  d_law : FnP K "law" "law" s_law [] a_law f_law
  g_law : mg "law" = some (.ref a_law)
  n_LookupError : mg "LookupError" = none
  n_ValueError : mg "ValueError" = none
  n_abs : mg "abs" = none
  n_all : mg "all" = none
  n_any : mg "any" = none
  n_int : mg "int" = none
  n_isinstance : mg "isinstance" = none
  n_len : mg "len" = none
  n_list : mg "list" = none
  n_max : mg "max" = none
  n_min : mg "min" = none
  n_range : mg "range" = none
  n_str : mg "str" = none
  a_FIGURES : Addr
  g_FIGURES : mg "FIGURES" = some (.ref a_FIGURES)
  c_FIGURES : SqL K (fun _ => none) a_FIGURES (v_FIGURES.map (He.Dv.v K))
  t_LAST : Value
  c_LAST : mg "LAST" = some t_LAST ∧ RelV (.str "9") t_LAST
  t_LETTERS : Value
  c_LETTERS : mg "LETTERS" = some t_LETTERS ∧ RelV (.str "abcdefghijklmnopqrstuvwxyz") t_LETTERS
  t_MOST_LETTERS : Value
  c_MOST_LETTERS : mg "MOST_LETTERS" = some t_MOST_LETTERS ∧ RelV (.int 8) t_MOST_LETTERS
/-! ### what each def does -/
noncomputable def m_law_bag (A : Ad) : MS :=
 (sSeq (sAsg (mC (.int 0)) (gNm 2))
 (sSeq (sIf (mTest (mB2 ltM (mVar 1) (mG lenM (mCons (mVar 0) mNil))))
 (sAsg (mB2 ixA (mVar 0) (mVar 1)) (gNm 2))
 sNx)
 (sSeq (sAsg (mC (.int 0)) (gNm 3))
 (sSeq (sIf (mTest (mB2 geM (mG absM (mCons (mVar 2) mNil)) (mB2 powM (mC (.int 10)) (mC (.int 18)))))
 (sAsg (mG absM (mCons (mVar 2) mNil)) (gNm 3))
 sNx)
 (sSeq (sAsg (mLst (mCons (mC (.int 2147483647)) (mCons (mC (.int 2147483629)) (mCons (mC (.int 2147483587)) (mCons (mC (.int 2147483579)) (mCons (mC (.int 2147483563)) (mCons (mC (.int 2147483549)) (mCons (mC (.int 2147483543)) (mCons (mC (.int 2147483497)) mNil))))))))) (gNm 4))
 (sSeq (sAsg (mB2 addM (mB2 addM (mB2 addM (mB2 mulM (mB2 modM (mVar 2) (mC (.int 2147483647))) (mC (.int 50021))) (mB2 mulM (mB2 mulM (mC (.int 70001)) (mVar 1)) (mVar 1))) (mB2 mulM (mC (.int 9001)) (mVar 1))) (mC (.int 7717))) (gNm 5))
 (sRet (mLst (mCons (mVar 3) (mCons (mB2 modM (mVar 5) (mB2 ixA (mVar 4) (mB2 modM (mVar 1) (mC (.int 8))))) mNil))))))))))
noncomputable def F_law_bag (A : Ad) : List W → M W := runB 6 (m_law_bag A)
noncomputable def m_law_take (A : Ad) : MS :=
 (sSeq (sIf (mTest (mB2 gtM (mB2 ixA (mVar 0) (mC (.int 0))) (mC (.int 0))))
 (sSeq (sAsg (mB2 modM (mB2 ixA (mVar 0) (mC (.int 0))) (mVar 1)) (gNm 2))
 (sSeq (sAsg (mB2 fdivM (mB2 ixA (mVar 0) (mC (.int 0))) (mVar 1)) (nxo (gSubM setLM (mVar 0) (mC (.int 0)))))
 (sRet (mVar 2))))
 sNx)
 (sSeq (sAsg (mB2 modM (mB2 addM (mB2 mulM (mB2 ixA (mVar 0) (mC (.int 1))) (mC (.int 69069))) (mC (.int 1327217))) (mC (.int 2147483647))) (nxo (gSubM setLM (mVar 0) (mC (.int 1)))))
 (sRet (mB2 modM (mB2 fdivM (mB2 modM (mB2 powM (mB2 ixA (mVar 0) (mC (.int 1))) (mC (.int 3))) (mC (.int 2147483629))) (mC (.int 16))) (mVar 1)))))
noncomputable def F_law_take (A : Ad) : List W → M W := runB 3 (m_law_take A)
noncomputable def m_law_drawn_name (A : Ad) : MS :=
 (sSeq (sAsg (mC (.str "abcdefghijklmnopqrstuvwxyz")) (gNm 1))
 (sSeq (sAsg (mJoin (mC (.str "")) (mLc (mRg1 (mCons (mB2 addM (mC (.int 1)) (mF 2 (F_law_take A) (mCons (mVar 0) (mCons (mC (.int 8)) mNil)))) mNil)) (bNm 3) (mB true) (mB2 ixA (mVar 1) (mF 2 (F_law_take A) (mCons (mVar 0) (mCons (mC (.int 26)) mNil)))) [3])) (gNm 2))
 (sRet (mB2 addM (mVar 2) (mB2 ixA (mLst (mCons (mC (.str "")) (mCons (mB2 ixA (mC (.str "23456789")) (mF 2 (F_law_take A) (mCons (mVar 0) (mCons (mC (.int 8)) mNil)))) mNil))) (mF 2 (F_law_take A) (mCons (mVar 0) (mCons (mC (.int 2)) mNil))))))))
noncomputable def F_law_drawn_name (A : Ad) : List W → M W := runB 4 (m_law_drawn_name A)
noncomputable def m_law_good_name (A : Ad) : MS :=
 (sSeq (sIf (mOrT (mNotT (mTest (mG (isiM isiB) (mCons (mVar 0) (mCons (mC (.ty "str")) mNil))))) (mTest (mB2 eqM (mVar 0) (mC (.str "")))))
 (sRet (mC (.bl false)))
 sNx)
 (sSeq (sAsg (mVar 0) (gNm 1))
 (sSeq (sIf (mTest (mB2 inM (mB2 ixA (mVar 0) (mU1 negM (mC (.int 1)))) (mG listM (mCons (mC (.str "23456789")) mNil))))
 (sAsg (mSl (mVar 0) mNo (mPart (mU1 negM (mC (.int 1))))) (gNm 1))
 sNx)
 (sRet (mAndV (mChain leM leM (mC (.int 1)) (mG lenM (mCons (mVar 1) mNil)) (mC (.int 8))) (mG allM (mCons (mLc (mIt (mVar 1)) (bNm 2) (mB true) (mB2 inM (mVar 2) (mG listM (mCons (mC (.str "abcdefghijklmnopqrstuvwxyz")) mNil))) [2]) mNil)))))))
noncomputable def F_law_good_name (A : Ad) : List W → M W := runB 3 (m_law_good_name A)
noncomputable def m_law_due (A : Ad) : MS :=
 (sSeq (sIf (mNotT (mTest (mF 1 (F_law_good_name A) (mCons (mVar 0) mNil))))
 (sRet (mTup (mCons (mC (.str "NoName")) mNil)))
 sNx)
 (sSeq (sIf (mTest (mB2 eqM (mB2 ixA (mVar 0) (mU1 negM (mC (.int 1)))) (mC (.str "9"))))
 (sRet (mTup (mCons (mC (.str "NoNext")) mNil)))
 sNx)
 (sSeq (sIf (mTest (mB2 inM (mB2 ixA (mVar 0) (mU1 negM (mC (.int 1)))) (mG listM (mCons (mC (.str "2345678")) mNil))))
 (sRet (mB2 addM (mSl (mVar 0) mNo (mPart (mU1 negM (mC (.int 1))))) (mG strM (mCons (mB2 addM (mG intSM (mCons (mB2 ixA (mVar 0) (mU1 negM (mC (.int 1)))) mNil)) (mC (.int 1))) mNil))))
 sNx)
 (sRet (mB2 addM (mVar 0) (mC (.str "2")))))))
noncomputable def F_law_due (A : Ad) : List W → M W := runB 1 (m_law_due A)
noncomputable def m_is_name (A : Ad) : MS :=
 (sSeq (sIf (mNotT (mTest (mG (isiM isiB) (mCons (mVar 0) (mCons (mC (.ty "str")) mNil)))))
 (sRet (mC (.bl false)))
 sNx)
 (sSeq (sAsg (mIf (mTest (mB2 inM (mSl (mVar 0) (mPart (mU1 negM (mC (.int 1)))) mNo) (mC (.cl w_FIGURES)))) (mSl (mVar 0) mNo (mPart (mU1 negM (mC (.int 1))))) (mVar 0)) (gNm 1))
 (sRet (mAndV (mChain leM leM (mC (.int 1)) (mG lenM (mCons (mVar 1) mNil)) (mC (.int 8))) (mG allM (mCons (mLc (mIt (mVar 1)) (bNm 2) (mB true) (mB2 inM (mVar 2) (mC (.str "abcdefghijklmnopqrstuvwxyz"))) [2]) mNil))))))
noncomputable def F_is_name (A : Ad) : List W → M W := runB 3 (m_is_name A)
noncomputable def m_look_name (A : Ad) : MS :=
 (sIf (mNotT (mTest (mF 1 (F_is_name A) (mCons (mVar 0) mNil))))
 (sRaise A.a_NoName)
 sNx)
noncomputable def F_look_name (A : Ad) : List W → M W := runB 1 (m_look_name A)
noncomputable def m_next_name (A : Ad) : MS :=
 (sSeq (sExp (mF 1 (F_look_name A) (mCons (mVar 0) mNil)))
 (sSeq (sAsg (mVar 0) (gStS (gsCons (gNm 1) (gsCons (gNm 2) gsNil))))
 (sSeq (sIf (mTest (mB2 eqM (mVar 2) (mC (.str "9"))))
 (sRaise A.a_NoNext)
 sNx)
 (sSeq (sIf (mTest (mB2 inM (mVar 2) (mC (.cl w_FIGURES))))
 (sRet (mB2 addM (mJoin (mC (.str "")) (mVar 1)) (mB2 ixA (mC (.cl w_FIGURES)) (mB2 addM (mMb .lst indexM (mC (.cl w_FIGURES)) (mCons (mVar 2) mNil)) (mC (.int 1))))))
 sNx)
 (sRet (mB2 addM (mVar 0) (mB2 ixA (mC (.cl w_FIGURES)) (mC (.int 0)))))))))
noncomputable def F_next_name (A : Ad) : List W → M W := runB 3 (m_next_name A)
noncomputable def m_law_which (A : Ad) (xa xD : Addr) : MS :=
 (sSeq (sAsg (mLst (mCons (mTup (mCons (mC (.str "NoName")) (mCons (mG (isEM (isxT (tabX A)) xa xD) (mCons (mVar 0) (mCons (mC (.gl A.a_NoName)) mNil))) mNil))) (mCons (mTup (mCons (mC (.str "NoMark")) (mCons (mG (isEM (isxT (tabX A)) xa xD) (mCons (mVar 0) (mCons (mC (.gl A.a_NoMark)) mNil))) mNil))) (mCons (mTup (mCons (mC (.str "NoTries")) (mCons (mG (isEM (isxT (tabX A)) xa xD) (mCons (mVar 0) (mCons (mC (.gl A.a_NoTries)) mNil))) mNil))) mNil)))) (gNm 1))
 (sSeq (sAsg (mB2 addM (mVar 1) (mLst (mCons (mTup (mCons (mC (.str "NoBounds")) (mCons (mG (isEM (isxT (tabX A)) xa xD) (mCons (mVar 0) (mCons (mC (.gl A.a_NoBounds)) mNil))) mNil))) (mCons (mTup (mCons (mC (.str "NoRule")) (mCons (mG (isEM (isxT (tabX A)) xa xD) (mCons (mVar 0) (mCons (mC (.gl A.a_NoRule)) mNil))) mNil))) mNil)))) (gNm 1))
 (sSeq (sAsg (mB2 addM (mVar 1) (mLst (mCons (mTup (mCons (mC (.str "NoNext")) (mCons (mG (isEM (isxT (tabX A)) xa xD) (mCons (mVar 0) (mCons (mC (.gl A.a_NoNext)) mNil))) mNil))) (mCons (mTup (mCons (mC (.str "NoScript")) (mCons (mG (isEM (isxT (tabX A)) xa xD) (mCons (mVar 0) (mCons (mC (.gl A.a_NoScript)) mNil))) mNil))) mNil)))) (gNm 1))
 (sSeq (sAsg (mB2 addM (mVar 1) (mLst (mCons (mTup (mCons (mC (.str "NoSaying")) (mCons (mG (isEM (isxT (tabX A)) xa xD) (mCons (mVar 0) (mCons (mC (.gl A.a_NoSaying)) mNil))) mNil))) (mCons (mTup (mCons (mC (.str "NoHands")) (mCons (mG (isEM (isxT (tabX A)) xa xD) (mCons (mVar 0) (mCons (mC (.gl A.a_NoHands)) mNil))) mNil))) mNil)))) (gNm 1))
 (sSeq (sAsg (mB2 addM (mVar 1) (mLst (mCons (mTup (mCons (mC (.str "Claimed")) (mCons (mG (isEM (isxT (tabX A)) xa xD) (mCons (mVar 0) (mCons (mC (.gl A.a_Claimed)) mNil))) mNil))) (mCons (mTup (mCons (mC (.str "NoClaim")) (mCons (mG (isEM (isxT (tabX A)) xa xD) (mCons (mVar 0) (mCons (mC (.gl A.a_NoClaim)) mNil))) mNil))) mNil)))) (gNm 1))
 (sSeq (sAsg (mB2 addM (mVar 1) (mLst (mCons (mTup (mCons (mC (.str "TooMany")) (mCons (mG (isEM (isxT (tabX A)) xa xD) (mCons (mVar 0) (mCons (mC (.gl A.a_TooMany)) mNil))) mNil))) (mCons (mTup (mCons (mC (.str "SameWire")) (mCons (mG (isEM (isxT (tabX A)) xa xD) (mCons (mVar 0) (mCons (mC (.gl A.a_SameWire)) mNil))) mNil))) mNil)))) (gNm 1))
 (sSeq (sAsg (mB2 addM (mVar 1) (mLst (mCons (mTup (mCons (mC (.str "NotEmpty")) (mCons (mG (isEM (isxT (tabX A)) xa xD) (mCons (mVar 0) (mCons (mC (.gl A.a_NotEmpty)) mNil))) mNil))) (mCons (mTup (mCons (mC (.str "Early")) (mCons (mG (isEM (isxT (tabX A)) xa xD) (mCons (mVar 0) (mCons (mC (.gl A.a_Early)) mNil))) mNil))) mNil)))) (gNm 1))
 (sSeq (sAsg (mB2 addM (mVar 1) (mLst (mCons (mTup (mCons (mC (.str "Came")) (mCons (mG (isEM (isxT (tabX A)) xa xD) (mCons (mVar 0) (mCons (mC (.gl A.a_Came)) mNil))) mNil))) (mCons (mTup (mCons (mC (.str "Owed")) (mCons (mG (isEM (isxT (tabX A)) xa xD) (mCons (mVar 0) (mCons (mC (.gl A.a_Owed)) mNil))) mNil))) (mCons (mTup (mCons (mC (.str "Due")) (mCons (mG (isEM (isxT (tabX A)) xa xD) (mCons (mVar 0) (mCons (mC (.gl A.a_Due)) mNil))) mNil))) mNil))))) (gNm 1))
 (sSeq (sAsg (mB2 addM (mVar 1) (mLst (mCons (mTup (mCons (mC (.str "NoLess")) (mCons (mG (isEM (isxT (tabX A)) xa xD) (mCons (mVar 0) (mCons (mC (.gl A.a_NoLess)) mNil))) mNil))) (mCons (mTup (mCons (mC (.str "NoPaper")) (mCons (mG (isEM (isxT (tabX A)) xa xD) (mCons (mVar 0) (mCons (mC (.gl A.a_NoPaper)) mNil))) mNil))) mNil)))) (gNm 1))
 (sSeq (sAsg (mLst (mCons (mTup (mCons (mC (.str "NoHand")) (mCons (mG (isEM (isxT (tabX A)) xa xD) (mCons (mVar 0) (mCons (mC (.gl A.a_NoHand)) mNil))) mNil))) (mCons (mTup (mCons (mC (.str "NoWire")) (mCons (mG (isEM (isxT (tabX A)) xa xD) (mCons (mVar 0) (mCons (mC (.gl A.a_NoWire)) mNil))) mNil))) (mCons (mTup (mCons (mC (.str "NotOn")) (mCons (mG (isEM (isxT (tabX A)) xa xD) (mCons (mVar 0) (mCons (mC (.gl A.a_NotOn)) mNil))) mNil))) mNil)))) (gNm 2))
 (sSeq (sAsg (mB2 addM (mVar 2) (mLst (mCons (mTup (mCons (mC (.str "IsOn")) (mCons (mG (isEM (isxT (tabX A)) xa xD) (mCons (mVar 0) (mCons (mC (.gl A.a_IsOn)) mNil))) mNil))) (mCons (mTup (mCons (mC (.str "NoLetter")) (mCons (mG (isEM (isxT (tabX A)) xa xD) (mCons (mVar 0) (mCons (mC (.gl A.a_NoLetter)) mNil))) mNil))) mNil)))) (gNm 2))
 (sSeq (sAsg (mLc (mItL (mB2 addM (mVar 1) (mVar 2))) (bTp 2 (bCons (bNm 5) (bCons (bNm 6) bNil))) (mTest (mVar 6)) (mVar 5) [5, 6]) (gNm 3))
 (sSeq (sAsg (mG anyM (mCons (mLc (mItL (mVar 2)) (bTp 2 (bCons (bNm 5) (bCons (bNm 6) bNil))) (mB true) (mVar 6) [5, 6]) mNil)) (gNm 4))
 (sSeq (sIf (mOrT (mTest (mB2 neM (mG lenM (mCons (mVar 3) mNil)) (mC (.int 1)))) (mOrT (mTest (mB2 neM (mG (isEM (isxT (tabX A)) xa xD) (mCons (mVar 0) (mCons (mC (.ty "LookupError")) mNil))) (mVar 4))) (mTest (mB2 eqM (mG (isEM (isxT (tabX A)) xa xD) (mCons (mVar 0) (mCons (mC (.gl A.a_WireError)) mNil))) (mVar 4)))))
 (sRet (mC (.str "several")))
 sNx)
 (sRet (mIf (mTest (mB2 neM (mG (isEM (isxT (tabX A)) xa xD) (mCons (mVar 0) (mCons (mC (.ty "ValueError")) mNil))) (mVar 4))) (mB2 ixA (mVar 3) (mC (.int 0))) (mC (.str "several"))))))))))))))))))
noncomputable def F_law_which (A : Ad) (xa xD : Addr) : List W → M W := runB 7 (m_law_which A xa xD)
noncomputable def m_law_next (A : Ad) : MS :=
 (sSeq (sAsg (mC (.str "")) (gNm 1))
 (sSeq (sTry 2 (exT (tabE A))
 (sAsg (mF 1 (F_next_name A) (mCons (mVar 0) mNil)) (gNm 1))
 (fun xa xD =>
 (sRet (mTup (mCons (mF 1 (F_law_which A xa xD) (mCons (mVar 2) mNil)) mNil)))))
 (sRet (mVar 1))))
noncomputable def F_law_next (A : Ad) : List W → M W := runB 3 (m_law_next A)
noncomputable def m_law_odd_name (A : Ad) : MS :=
 (sSeq (sAsg (mC (.str "abz0123456789 AZ-_.,")) (gNm 2))
 (sSeq (sPar [3, 4] (mCons (mB2 ixA (mVar 2) (mF 2 (F_law_take A) (mCons (mVar 0) (mCons (mC (.int 20)) mNil)))) (mCons (mF 2 (F_law_take A) (mCons (mVar 0) (mCons (mB2 addM (mG lenM (mCons (mVar 1) mNil)) (mC (.int 1))) mNil))) mNil)))
 (sSeq (sAsg (mLst (mCons (mB2 addM (mB2 addM (mSl (mVar 1) mNo (mPart (mVar 4))) (mVar 3)) (mSl (mVar 1) (mPart (mVar 4)) mNo)) (mCons (mB2 addM (mSl (mVar 1) mNo (mPart (mVar 4))) (mSl (mVar 1) (mPart (mB2 addM (mVar 4) (mC (.int 1)))) mNo)) (mCons (mB2 addM (mB2 addM (mSl (mVar 1) mNo (mPart (mVar 4))) (mVar 3)) (mSl (mVar 1) (mPart (mB2 addM (mVar 4) (mC (.int 1)))) mNo)) mNil)))) (gNm 5))
 (sSeq (sExp (mMb .lst appendM (mVar 5) (mCons (mB2 addM (mB2 addM (mSl (mVar 1) mNo (mPart (mVar 4))) (mRevS (mSl (mVar 1) (mPart (mVar 4)) (mPart (mB2 addM (mVar 4) (mC (.int 2))))))) (mSl (mVar 1) (mPart (mB2 addM (mVar 4) (mC (.int 2)))) mNo)) mNil)))
 (sSeq (sAsg (mB2 addM (mVar 5) (mLst (mCons (mB2 addM (mVar 1) (mVar 1)) (mCons (mB2 addM (mVar 1) (mVar 3)) (mCons (mB2 addM (mVar 3) (mVar 1)) mNil))))) (gNm 5))
 (sSeq (sAsg (mB2 addM (mVar 5) (mLst (mCons (mC .non) (mCons (mC (.bl true)) (mCons (mC (.int 0)) (mCons (mC (.int 7)) (mCons (mB2 powM (mC (.int 10)) (mC (.int 30))) (mCons (mC (.str "")) (mCons (mC (.str "2")) (mCons (mC (.str "9")) (mCons (mC (.str "a0")) (mCons (mC (.str "a1")) (mCons (mC (.str "a10")) (mCons (mC (.str "abcdefghi")) (mCons (mC (.str "abcdefgh2")) (mCons (mC (.str "abcdefghi2")) mNil)))))))))))))))) (gNm 5))
 (sRet (mB2 ixA (mB2 addM (mVar 5) (mLst (mCons (mC (.str "a2b")) (mCons (mTup (mCons (mVar 1) mNil)) (mCons (mLst (mCons (mVar 1) mNil)) (mCons (mLst mNil) (mCons (mTup (mCons (mC (.str "a")) (mCons (mC (.str "2")) mNil))) mNil))))))) (mF 2 (F_law_take A) (mCons (mVar 0) (mCons (mC (.int 26)) mNil)))))))))))
noncomputable def F_law_odd_name (A : Ad) : List W → M W := runB 6 (m_law_odd_name A)
noncomputable def m_law (A : Ad) : MS :=
 (sSeq (sFor (mRg1 (mCons (mG max2M (mCons (mC (.int 1)) (mCons (mG min2M (mCons (mC (.int 4)) (mCons (mG lenM (mCons (mVar 0) mNil)) mNil))) mNil))) mNil)) (gNm 1)
 (sSeq (sAsg (mF 2 (F_law_bag A) (mCons (mVar 0) (mCons (mVar 1) mNil))) (gNm 2))
 (sFor (mRg1 (mCons (mC (.int 4)) mNil)) (gNm 3)
 (sSeq (sAsg (mF 1 (F_law_drawn_name A) (mCons (mVar 2) mNil)) (gNm 4))
 (sSeq (sFor (mRg1 (mCons (mC (.int 10)) mNil)) (gNm 5)
 (sSeq (sAsg (mF 1 (F_law_next A) (mCons (mVar 4) mNil)) (gNm 6))
 (sSeq (sIf (mOrT (mTest (mB2 neM (mVar 6) (mF 1 (F_law_due A) (mCons (mVar 4) mNil)))) (mOrT (mTest (mB2 neM (mF 1 (F_next_name A) (mCons (mC (.str "b")) mNil)) (mC (.str "b2")))) (mTest (mB2 neM (mF 1 (F_law_next A) (mCons (mVar 4) mNil)) (mVar 6)))))
 (sRet (mC (.bl false)))
 sNx)
 (sSeq (sIf (mNotT (mTest (mG (isiM isiB) (mCons (mVar 6) (mCons (mC (.ty "str")) mNil)))))
 sBk
 sNx)
 (sSeq (sIf (mNotT (mTest (mF 1 (F_is_name A) (mCons (mVar 6) mNil))))
 (sRet (mC (.bl false)))
 sNx)
 (sAsg (mVar 6) (gNm 4)))))))
 (sSeq (sIf (mTest (mB2 neM (mF 1 (F_law_next A) (mCons (mVar 4) mNil)) (mTup (mCons (mC (.str "NoNext")) mNil))))
 (sRet (mC (.bl false)))
 sNx)
 (sFor (mIt (mLst (mCons (mF 2 (F_law_odd_name A) (mCons (mVar 2) (mCons (mVar 4) mNil))) (mCons (mF 2 (F_law_odd_name A) (mCons (mVar 2) (mCons (mF 1 (F_law_drawn_name A) (mCons (mVar 2) mNil)) mNil))) mNil)))) (gNm 7)
 (sIf (mTest (mB2 neM (mF 1 (F_law_next A) (mCons (mVar 7) mNil)) (mF 1 (F_law_due A) (mCons (mVar 7) mNil))))
 (sRet (mC (.bl false)))
 sNx))))))))
 (sRet (mC (.bl true))))
noncomputable def F_law (A : Ad) : List W → M W := runB 8 (m_law A)
section
variable {P : Program} {w : World} {K : PySem.W.Frag} {mg : Str → Option Value} {base : Heap}
theorem b_law_bag (E : En K w mg) : Binds K E.f_law_bag ["_law_script", "_law_at"] [] := E.d_law_bag.bindsN fun _ _ _ _ _ _ us hl => match us, hl with | [_, _], _ => rfl
theorem b_law_take (E : En K w mg) : Binds K E.f_law_take ["_law_bag_here", "_law_many"] [] := E.d_law_take.bindsN fun _ _ _ _ _ _ us hl => match us, hl with | [_, _], _ => rfl
theorem b_law_drawn_name (E : En K w mg) : Binds K E.f_law_drawn_name ["_law_bag_here"] [] := E.d_law_drawn_name.bindsN fun _ _ _ _ _ _ us hl => match us, hl with | [_], _ => rfl
theorem b_law_good_name (E : En K w mg) : Binds K E.f_law_good_name ["_law_thing"] [] := E.d_law_good_name.bindsN fun _ _ _ _ _ _ us hl => match us, hl with | [_], _ => rfl
theorem b_law_due (E : En K w mg) : Binds K E.f_law_due ["_law_thing"] [] := E.d_law_due.bindsN fun _ _ _ _ _ _ us hl => match us, hl with | [_], _ => rfl
theorem b_is_name (E : En K w mg) : Binds K E.f_is_name ["thing"] [] := E.d_is_name.bindsN fun _ _ _ _ _ _ us hl => match us, hl with | [_], _ => rfl
theorem b_look_name (E : En K w mg) : Binds K E.f_look_name ["thing"] [] := E.d_look_name.bindsN fun _ _ _ _ _ _ us hl => match us, hl with | [_], _ => rfl
theorem b_next_name (E : En K w mg) : Binds K E.f_next_name ["name"] [] := E.d_next_name.bindsN fun _ _ _ _ _ _ us hl => match us, hl with | [_], _ => rfl
theorem b_law_which (E : En K w mg) : Binds K E.f_law_which ["_law_e"] [] := E.d_law_which.bindsN fun _ _ _ _ _ _ us hl => match us, hl with | [_], _ => rfl
theorem b_law_next (E : En K w mg) : Binds K E.f_law_next ["_law_thing"] [] := E.d_law_next.bindsN fun _ _ _ _ _ _ us hl => match us, hl with | [_], _ => rfl
theorem b_law_odd_name (E : En K w mg) : Binds K E.f_law_odd_name ["_law_bag_here", "_law_name"] [] := E.d_law_odd_name.bindsN fun _ _ _ _ _ _ us hl => match us, hl with | [_, _], _ => rfl
theorem b_law (E : En K w mg) : Binds K E.f_law ["_law_script"] [] := E.d_law.bindsN fun _ _ _ _ _ _ us hl => match us, hl with | [_], _ => rfl
theorem sc_law_bag : FnScope ["_law_script", "_law_at", "_law_cell", "_law_great", "_law_primes", "_law_mixed"] ["_law_script", "_law_at"] (defScope s_law_bag) := ⟨rfl, rfl, rfl, by decide +kernel, rfl, by decide +kernel, by decide +kernel⟩
theorem sc_law_take : FnScope ["_law_bag_here", "_law_many", "_law_digit"] ["_law_bag_here", "_law_many"] (defScope s_law_take) := ⟨rfl, rfl, rfl, by decide +kernel, rfl, by decide +kernel, by decide +kernel⟩
theorem sc_law_drawn_name : FnScope ["_law_bag_here", "_law_letters", "_law_found", "_law_spot"] ["_law_bag_here"] (defScope s_law_drawn_name) := ⟨rfl, rfl, rfl, by decide +kernel, rfl, by decide +kernel, by decide +kernel⟩
theorem sc_law_good_name : FnScope ["_law_thing", "_law_core", "_law_sign"] ["_law_thing"] (defScope s_law_good_name) := ⟨rfl, rfl, rfl, by decide +kernel, rfl, by decide +kernel, by decide +kernel⟩
theorem sc_law_due : FnScope ["_law_thing"] ["_law_thing"] (defScope s_law_due) := ⟨rfl, rfl, rfl, by decide +kernel, rfl, by decide +kernel, by decide +kernel⟩
theorem sc_is_name : FnScope ["thing", "letters", "sign"] ["thing"] (defScope s_is_name) := ⟨rfl, rfl, rfl, by decide +kernel, rfl, by decide +kernel, by decide +kernel⟩
theorem sc_look_name : FnScope ["thing"] ["thing"] (defScope s_look_name) := ⟨rfl, rfl, rfl, by decide +kernel, rfl, by decide +kernel, by decide +kernel⟩
theorem sc_next_name : FnScope ["name", "letters", "last"] ["name"] (defScope s_next_name) := ⟨rfl, rfl, rfl, by decide +kernel, rfl, by decide +kernel, by decide +kernel⟩
theorem sc_law_which : FnScope ["_law_e", "_law_kinds", "_law_looks", "_law_some", "_law_is_look", "_law_word", "_law_is_so"] ["_law_e"] (defScope s_law_which) := ⟨rfl, rfl, rfl, by decide +kernel, rfl, by decide +kernel, by decide +kernel⟩
theorem sc_law_next : FnScope ["_law_thing", "_law_found", "_law_e"] ["_law_thing"] (defScope s_law_next) := ⟨rfl, rfl, rfl, by decide +kernel, rfl, by decide +kernel, by decide +kernel⟩
theorem sc_law_odd_name : FnScope ["_law_bag_here", "_law_name", "_law_signs", "_law_sign", "_law_spot", "_law_some"] ["_law_bag_here", "_law_name"] (defScope s_law_odd_name) := ⟨rfl, rfl, rfl, by decide +kernel, rfl, by decide +kernel, by decide +kernel⟩
theorem sc_law : FnScope ["_law_script", "_law_at", "_law_bag_here", "_law_turn", "_law_name", "_law_step", "_law_told", "_law_thing"] ["_law_script"] (defScope s_law) := ⟨rfl, rfl, rfl, by decide +kernel, rfl, by decide +kernel, by decide +kernel⟩
theorem ok_law_bag (E : En K w mg) : FM P w K mg base 1 E.a_law_bag E.f_law_bag ["_law_script", "_law_at"] (F_law_bag E.ad) := by
  refine fm_of (k := 0) (N := ["_law_script", "_law_at", "_law_cell", "_law_great", "_law_primes", "_law_mixed"]) E.d_law_bag sc_law_bag fun cdv A outer s H X hr hG => ?_
  exact (s_cons (s_set (i := 2) sc_law_bag.nd rfl (by first | exact Or.inl rfl | exact Or.inr rfl) m_int)
 (s_cons (s_if (m_tcmp op_ltM (m_v 1) (m_blt c_len (by rfl) E.n_len (by rfl) (m_cons (m_v 0) m_nil)))
 (s_one (s_set (i := 2) sc_law_bag.nd rfl (by first | exact Or.inl rfl | exact Or.inr rfl) (m_ix ix_ixA (m_v 0) (m_v 1))))
 s_nil)
 (s_cons (s_set (i := 3) sc_law_bag.nd rfl (by first | exact Or.inl rfl | exact Or.inr rfl) m_int)
 (s_cons (s_if (m_tcmp op_geM (m_blt c_abs (by rfl) E.n_abs (by rfl) (m_cons (m_v 2) m_nil)) (m_bin op_powM m_int m_int))
 (s_one (s_set (i := 3) sc_law_bag.nd rfl (by first | exact Or.inl rfl | exact Or.inr rfl) (m_blt c_abs (by rfl) E.n_abs (by rfl) (m_cons (m_v 2) m_nil))))
 s_nil)
 (s_cons (s_set (i := 4) sc_law_bag.nd rfl (by first | exact Or.inl rfl | exact Or.inr rfl) (m_lst (m_cons m_int (m_cons m_int (m_cons m_int (m_cons m_int (m_cons m_int (m_cons m_int (m_cons m_int (m_cons m_int m_nil))))))))))
 (s_cons (s_set (i := 5) sc_law_bag.nd rfl (by first | exact Or.inl rfl | exact Or.inr rfl) (m_bin op_addM (m_bin op_addM (m_bin op_addM (m_bin op_mulM (m_bin op_modM (m_v 2) m_int) m_int) (m_bin op_mulM (m_bin op_mulM m_int (m_v 1)) (m_v 1))) (m_bin op_mulM m_int (m_v 1))) m_int))
 (s_one (s_ret (m_lst (m_cons (m_v 3) (m_cons (m_bin op_modM (m_v 5) (m_ix ix_ixA (m_v 4) (m_bin op_modM (m_v 1) m_int))) m_nil)))))))))))
theorem ok_law_take (E : En K w mg) : FM P w K mg base 1 E.a_law_take E.f_law_take ["_law_bag_here", "_law_many"] (F_law_take E.ad) := by
  refine fm_of (k := 0) (N := ["_law_bag_here", "_law_many", "_law_digit"]) E.d_law_take sc_law_take fun cdv A outer s H X hr hG => ?_
  exact (s_cons (s_if (m_tcmp op_gtM (m_ix ix_ixA (m_v 0) m_int) m_int)
 (s_cons (s_set (i := 2) sc_law_take.nd rfl (by first | exact Or.inl rfl | exact Or.inr rfl) (m_bin op_modM (m_ix ix_ixA (m_v 0) m_int) (m_v 1)))
 (s_cons (s_asg (m_bin op_fdivM (m_ix ix_ixA (m_v 0) m_int) (m_v 1)) (g_nxo (g_sub st_list (m_v 0) m_int)) st_nxo)
 (s_one (s_ret (m_v 2)))))
 s_nil)
 (s_cons (s_asg (m_bin op_modM (m_bin op_addM (m_bin op_mulM (m_ix ix_ixA (m_v 0) m_int) m_int) m_int) m_int) (g_nxo (g_sub st_list (m_v 0) m_int)) st_nxo)
 (s_one (s_ret (m_bin op_modM (m_bin op_fdivM (m_bin op_modM (m_bin op_powM (m_ix ix_ixA (m_v 0) m_int) m_int) m_int) m_int) (m_v 1))))))
theorem ok_law_drawn_name (E : En K w mg) : FM P w K mg base 2 E.a_law_drawn_name E.f_law_drawn_name ["_law_bag_here"] (F_law_drawn_name E.ad) := by
  refine fm_of (k := 1) (N := ["_law_bag_here", "_law_letters", "_law_found", "_law_spot"]) E.d_law_drawn_name sc_law_drawn_name fun cdv A outer s H X hr hG => ?_
  have tk := L2N.takes_of (X := cxOf (L2N.CX P w) P w K mg base ["_law_bag_here", "_law_letters", "_law_found", "_law_spot"] "_law_drawn_name" (defScope s_law_drawn_name) E.a_law_drawn_name cdv A outer s H X) (E := X) rfl rfl rfl rfl
  exact (s_cons (s_set (i := 1) sc_law_drawn_name.nd rfl (by first | exact Or.inl rfl | exact Or.inr rfl) m_str)
 (s_cons (s_set (i := 2) sc_law_drawn_name.nd rfl (by first | exact Or.inl rfl | exact Or.inr rfl) (m_join m_str (m_lc (own := [("_law_spot", 3)]) rfl sc_law_drawn_name.nd (i_rg1 (by rfl) E.n_range (m_cons (m_bin op_addM m_int (m_call ((ok_law_take E).up (by decide)) hr hG tk (by rfl) E.g_law_take E.d_law_take.kp (b_law_take E) (m_cons (m_v 0) (m_cons m_int m_nil)))) m_nil)) (blkOk_by (N := ["_law_bag_here", "_law_letters", "_law_found", "_law_spot"]) (sc := defScope s_law_drawn_name) (by decide +kernel)) (by exact fun _ _ _ _ _ => (b_name (i := 3) sc_law_drawn_name.nd rfl (by first | exact Or.inl rfl | exact Or.inr rfl) (by decide))) (by exact fun _ _ _ _ _ => if_nil) (by exact fun _ _ _ _ _ => (m_ix ix_ixA (m_v 1) (m_call ((ok_law_take E).up (by decide)) hr hG takesF (by rfl) E.g_law_take E.d_law_take.kp (b_law_take E) (m_cons (m_v 0) (m_cons m_int m_nil))))))))
 (s_one (s_ret (m_bin op_addM (m_v 2) (m_ix ix_ixA (m_lst (m_cons m_str (m_cons (m_ix ix_ixA m_str (m_call ((ok_law_take E).up (by decide)) hr hG tk (by rfl) E.g_law_take E.d_law_take.kp (b_law_take E) (m_cons (m_v 0) (m_cons m_int m_nil)))) m_nil))) (m_call ((ok_law_take E).up (by decide)) hr hG tk (by rfl) E.g_law_take E.d_law_take.kp (b_law_take E) (m_cons (m_v 0) (m_cons m_int m_nil)))))))))
theorem ok_law_good_name (E : En K w mg) : FM P w K mg base 1 E.a_law_good_name E.f_law_good_name ["_law_thing"] (F_law_good_name E.ad) := by
  refine fm_of (k := 0) (N := ["_law_thing", "_law_core", "_law_sign"]) E.d_law_good_name sc_law_good_name fun cdv A outer s H X hr hG => ?_
  exact (s_cons (s_if (PWm.t (m_wor (m_tnot (m_tval (m_blt (c_isi isiB_ok) (by rfl) E.n_isinstance (by rfl) (m_cons (m_v 0) (m_cons (m_tyc (by rfl) E.n_str (by rfl)) m_nil))))) (m_wor1 (m_tcmp (op_eqM hr.units) (m_v 0) m_str))))
 (s_one (s_ret m_bl))
 s_nil)
 (s_cons (s_set (i := 1) sc_law_good_name.nd rfl (by first | exact Or.inl rfl | exact Or.inr rfl) (m_v 0))
 (s_cons (s_if (m_tcmp (op_inM (u65 hr)) (m_ix ix_ixA (m_v 0) (m_un un_negM m_int)) (m_bty (c_list rfl) (by rfl) E.n_list (by rfl) (m_cons m_str m_nil)))
 (s_one (s_set (i := 1) sc_law_good_name.nd rfl (by first | exact Or.inl rfl | exact Or.inr rfl) (m_slice (m_v 0) o_none (o_some (m_un un_negM m_int)))))
 s_nil)
 (s_one (s_ret (m_and (m_chain op_leM op_leM m_int (m_blt c_len (by rfl) E.n_len (by rfl) (m_cons (m_v 1) m_nil)) m_int) (m_one (m_blt (c_all rfl) (by rfl) E.n_all (by rfl) (m_cons (m_lc (own := [("_law_sign", 2)]) rfl sc_law_good_name.nd (i_val (m_v 1)) (blkOk_by (N := ["_law_thing", "_law_core", "_law_sign"]) (sc := defScope s_law_good_name) (by decide +kernel)) (by exact fun _ _ _ _ _ => (b_name (i := 2) sc_law_good_name.nd rfl (by first | exact Or.inl rfl | exact Or.inr rfl) (by decide))) (by exact fun _ _ _ _ _ => if_nil) (by exact fun _ _ _ _ _ => (m_cmp (op_inM (u65 hr)) (m_v 2) (m_bty (c_list rfl) (by rfl) E.n_list (by rfl) (m_cons m_str m_nil))))) m_nil)))))))))
theorem ok_law_due (E : En K w mg) : FM P w K mg base 2 E.a_law_due E.f_law_due ["_law_thing"] (F_law_due E.ad) := by
  refine fm_of (k := 1) (N := ["_law_thing"]) E.d_law_due sc_law_due fun cdv A outer s H X hr hG => ?_
  have tk := L2N.takes_of (X := cxOf (L2N.CX P w) P w K mg base ["_law_thing"] "_law_due" (defScope s_law_due) E.a_law_due cdv A outer s H X) (E := X) rfl rfl rfl rfl
  exact (s_cons (s_if (m_tnot (m_tval (m_call ((ok_law_good_name E).up (by decide)) hr hG tk (by rfl) E.g_law_good_name E.d_law_good_name.kp (b_law_good_name E) (m_cons (m_v 0) m_nil))))
 (s_one (s_ret (m_tup (m_cons m_str m_nil))))
 s_nil)
 (s_cons (s_if (m_tcmp (op_eqM hr.units) (m_ix ix_ixA (m_v 0) (m_un un_negM m_int)) m_str)
 (s_one (s_ret (m_tup (m_cons m_str m_nil))))
 s_nil)
 (s_cons (s_if (m_tcmp (op_inM (u65 hr)) (m_ix ix_ixA (m_v 0) (m_un un_negM m_int)) (m_bty (c_list rfl) (by rfl) E.n_list (by rfl) (m_cons m_str m_nil)))
 (s_one (s_ret (m_bin op_addM (m_slice (m_v 0) o_none (o_some (m_un un_negM m_int))) (m_bty c_str (by rfl) E.n_str (by rfl) (m_cons (m_bin op_addM (m_bty c_intS (by rfl) E.n_int (by rfl) (m_cons (m_ix ix_ixA (m_v 0) (m_un un_negM m_int)) m_nil)) m_int) m_nil)))))
 s_nil)
 (s_one (s_ret (m_bin op_addM (m_v 0) m_str))))))
theorem ok_is_name (E : En K w mg) : FM P w K mg base 1 E.a_is_name E.f_is_name ["thing"] (F_is_name E.ad) := by
  refine fm_of (k := 0) (N := ["thing", "letters", "sign"]) E.d_is_name sc_is_name fun cdv A outer s H X hr hG => ?_
  exact (s_cons (s_if (m_tnot (m_tval (m_blt (c_isi isiB_ok) (by rfl) E.n_isinstance (by rfl) (m_cons (m_v 0) (m_cons (m_tyc (by rfl) E.n_str (by rfl)) m_nil)))))
 (s_one (s_ret m_bl))
 s_nil)
 (s_cons (s_set (i := 1) sc_is_name.nd rfl (by first | exact Or.inl rfl | exact Or.inr rfl) (m_if (m_tcmp (op_inM (u65 hr)) (m_slice (m_v 0) (o_some (m_un un_negM m_int)) o_none) (m_glst (ws := w_FIGURES) (by rfl) E.g_FIGURES E.c_FIGURES (fun _ _ => r_FIGURES))) (m_slice (m_v 0) o_none (o_some (m_un un_negM m_int))) (m_v 0)))
 (s_one (s_ret (m_and (m_chain op_leM op_leM m_int (m_blt c_len (by rfl) E.n_len (by rfl) (m_cons (m_v 1) m_nil)) (m_gint (by rfl) E.c_MOST_LETTERS)) (m_one (m_blt (c_all rfl) (by rfl) E.n_all (by rfl) (m_cons (m_lc (own := [("sign", 2)]) rfl sc_is_name.nd (i_val (m_v 1)) (blkOk_by (N := ["thing", "letters", "sign"]) (sc := defScope s_is_name) (by decide +kernel)) (by exact fun _ _ _ _ _ => (b_name (i := 2) sc_is_name.nd rfl (by first | exact Or.inl rfl | exact Or.inr rfl) (by decide))) (by exact fun _ _ _ _ _ => if_nil) (by exact fun _ _ _ _ _ => (m_cmp (op_inM (u65 hr)) (m_v 2) (m_gstr (by rfl) E.c_LETTERS)))) m_nil))))))))
theorem ok_look_name (E : En K w mg) : FM P w K mg base 2 E.a_look_name E.f_look_name ["thing"] (F_look_name E.ad) := by
  refine fm_of (k := 1) (N := ["thing"]) E.d_look_name sc_look_name fun cdv A outer s H X hr hG => ?_
  have tk := L2N.takes_of (X := cxOf (L2N.CX P w) P w K mg base ["thing"] "look_name" (defScope s_look_name) E.a_look_name cdv A outer s H X) (E := X) rfl rfl rfl rfl
  exact (s_one (s_if (m_tnot (m_tval (m_call ((ok_is_name E).up (by decide)) hr hG tk (by rfl) E.g_is_name E.d_is_name.kp (b_is_name E) (m_cons (m_v 0) m_nil))))
 (s_one (s_raise PySem.F.excBase_ValueError (excK_of E.x_NoName) rfl tk E.g_NoName (by rfl)))
 s_nil))
theorem ok_next_name (E : En K w mg) : FM P w K mg base 3 E.a_next_name E.f_next_name ["name"] (F_next_name E.ad) := by
  refine fm_of (k := 2) (N := ["name", "letters", "last"]) E.d_next_name sc_next_name fun cdv A outer s H X hr hG => ?_
  have tk := L2N.takes_of (X := cxOf (L2N.CX P w) P w K mg base ["name", "letters", "last"] "next_name" (defScope s_next_name) E.a_next_name cdv A outer s H X) (E := X) rfl rfl rfl rfl
  exact (s_cons (s_expr (m_call ((ok_look_name E).up (by decide)) hr hG tk (by rfl) E.g_look_name E.d_look_name.kp (b_look_name E) (m_cons (m_v 0) m_nil)))
 (s_cons (s_asg (m_v 0) (g_star rfl (gs_cons (g_name sc_next_name.nd (i := 1) rfl (by first | exact Or.inl rfl | exact Or.inr rfl)) (gs_cons (g_name sc_next_name.nd (i := 2) rfl (by first | exact Or.inl rfl | exact Or.inr rfl)) gs_nil))) (st_star (st_cons st_nm (st_cons st_nm st_nil))))
 (s_cons (s_if (m_tcmp (op_eqM hr.units) (m_v 2) (m_gstr (by rfl) E.c_LAST))
 (s_one (s_raise PySem.F.excBase_ValueError (excK_of E.x_NoNext) rfl tk E.g_NoNext (by rfl)))
 s_nil)
 (s_cons (s_if (m_tcmp (op_inM (u65 hr)) (m_v 2) (m_glst (ws := w_FIGURES) (by rfl) E.g_FIGURES E.c_FIGURES (fun _ _ => r_FIGURES)))
 (s_one (s_ret (m_bin op_addM (m_join m_str (m_v 1)) (m_ix ix_ixA (m_glst (ws := w_FIGURES) (by rfl) E.g_FIGURES E.c_FIGURES (fun _ _ => r_FIGURES)) (m_bin op_addM (m_index (m_glst (ws := w_FIGURES) (by rfl) E.g_FIGURES E.c_FIGURES (fun _ _ => r_FIGURES)) (m_cons (m_v 2) m_nil)) m_int)))))
 s_nil)
 (s_one (s_ret (m_bin op_addM (m_v 0) (m_ix ix_ixA (m_glst (ws := w_FIGURES) (by rfl) E.g_FIGURES E.c_FIGURES (fun _ _ => r_FIGURES)) m_int))))))))
theorem okH_law_which (E : En K w mg) (xa xD : Addr) : FMH P w K mg base (ExAt xa xD) 1 E.a_law_which E.f_law_which ["_law_e"] (F_law_which E.ad xa xD) := by
  refine fmH_of (k := 0) (N := ["_law_e", "_law_kinds", "_law_looks", "_law_some", "_law_is_look", "_law_word", "_law_is_so"]) E.d_law_which sc_law_which fun cdv A outer s H X xp hz hr hG => ?_
  exact (s_cons (s_set (i := 1) sc_law_which.nd rfl (by first | exact Or.inl rfl | exact Or.inr rfl) (m_lst (m_cons (m_tup (m_cons m_str (m_cons (m_blt (c_isX E.i_exc hz) (by rfl) E.n_isinstance (by rfl) (m_cons (m_v 0) (m_cons (m_gref (by rfl) E.g_NoName) m_nil))) m_nil))) (m_cons (m_tup (m_cons m_str (m_cons (m_blt (c_isX E.i_exc hz) (by rfl) E.n_isinstance (by rfl) (m_cons (m_v 0) (m_cons (m_gref (by rfl) E.g_NoMark) m_nil))) m_nil))) (m_cons (m_tup (m_cons m_str (m_cons (m_blt (c_isX E.i_exc hz) (by rfl) E.n_isinstance (by rfl) (m_cons (m_v 0) (m_cons (m_gref (by rfl) E.g_NoTries) m_nil))) m_nil))) m_nil)))))
 (s_cons (s_set (i := 1) sc_law_which.nd rfl (by first | exact Or.inl rfl | exact Or.inr rfl) (m_bin op_addM (m_v 1) (m_lst (m_cons (m_tup (m_cons m_str (m_cons (m_blt (c_isX E.i_exc hz) (by rfl) E.n_isinstance (by rfl) (m_cons (m_v 0) (m_cons (m_gref (by rfl) E.g_NoBounds) m_nil))) m_nil))) (m_cons (m_tup (m_cons m_str (m_cons (m_blt (c_isX E.i_exc hz) (by rfl) E.n_isinstance (by rfl) (m_cons (m_v 0) (m_cons (m_gref (by rfl) E.g_NoRule) m_nil))) m_nil))) m_nil)))))
 (s_cons (s_set (i := 1) sc_law_which.nd rfl (by first | exact Or.inl rfl | exact Or.inr rfl) (m_bin op_addM (m_v 1) (m_lst (m_cons (m_tup (m_cons m_str (m_cons (m_blt (c_isX E.i_exc hz) (by rfl) E.n_isinstance (by rfl) (m_cons (m_v 0) (m_cons (m_gref (by rfl) E.g_NoNext) m_nil))) m_nil))) (m_cons (m_tup (m_cons m_str (m_cons (m_blt (c_isX E.i_exc hz) (by rfl) E.n_isinstance (by rfl) (m_cons (m_v 0) (m_cons (m_gref (by rfl) E.g_NoScript) m_nil))) m_nil))) m_nil)))))
 (s_cons (s_set (i := 1) sc_law_which.nd rfl (by first | exact Or.inl rfl | exact Or.inr rfl) (m_bin op_addM (m_v 1) (m_lst (m_cons (m_tup (m_cons m_str (m_cons (m_blt (c_isX E.i_exc hz) (by rfl) E.n_isinstance (by rfl) (m_cons (m_v 0) (m_cons (m_gref (by rfl) E.g_NoSaying) m_nil))) m_nil))) (m_cons (m_tup (m_cons m_str (m_cons (m_blt (c_isX E.i_exc hz) (by rfl) E.n_isinstance (by rfl) (m_cons (m_v 0) (m_cons (m_gref (by rfl) E.g_NoHands) m_nil))) m_nil))) m_nil)))))
 (s_cons (s_set (i := 1) sc_law_which.nd rfl (by first | exact Or.inl rfl | exact Or.inr rfl) (m_bin op_addM (m_v 1) (m_lst (m_cons (m_tup (m_cons m_str (m_cons (m_blt (c_isX E.i_exc hz) (by rfl) E.n_isinstance (by rfl) (m_cons (m_v 0) (m_cons (m_gref (by rfl) E.g_Claimed) m_nil))) m_nil))) (m_cons (m_tup (m_cons m_str (m_cons (m_blt (c_isX E.i_exc hz) (by rfl) E.n_isinstance (by rfl) (m_cons (m_v 0) (m_cons (m_gref (by rfl) E.g_NoClaim) m_nil))) m_nil))) m_nil)))))
 (s_cons (s_set (i := 1) sc_law_which.nd rfl (by first | exact Or.inl rfl | exact Or.inr rfl) (m_bin op_addM (m_v 1) (m_lst (m_cons (m_tup (m_cons m_str (m_cons (m_blt (c_isX E.i_exc hz) (by rfl) E.n_isinstance (by rfl) (m_cons (m_v 0) (m_cons (m_gref (by rfl) E.g_TooMany) m_nil))) m_nil))) (m_cons (m_tup (m_cons m_str (m_cons (m_blt (c_isX E.i_exc hz) (by rfl) E.n_isinstance (by rfl) (m_cons (m_v 0) (m_cons (m_gref (by rfl) E.g_SameWire) m_nil))) m_nil))) m_nil)))))
 (s_cons (s_set (i := 1) sc_law_which.nd rfl (by first | exact Or.inl rfl | exact Or.inr rfl) (m_bin op_addM (m_v 1) (m_lst (m_cons (m_tup (m_cons m_str (m_cons (m_blt (c_isX E.i_exc hz) (by rfl) E.n_isinstance (by rfl) (m_cons (m_v 0) (m_cons (m_gref (by rfl) E.g_NotEmpty) m_nil))) m_nil))) (m_cons (m_tup (m_cons m_str (m_cons (m_blt (c_isX E.i_exc hz) (by rfl) E.n_isinstance (by rfl) (m_cons (m_v 0) (m_cons (m_gref (by rfl) E.g_Early) m_nil))) m_nil))) m_nil)))))
 (s_cons (s_set (i := 1) sc_law_which.nd rfl (by first | exact Or.inl rfl | exact Or.inr rfl) (m_bin op_addM (m_v 1) (m_lst (m_cons (m_tup (m_cons m_str (m_cons (m_blt (c_isX E.i_exc hz) (by rfl) E.n_isinstance (by rfl) (m_cons (m_v 0) (m_cons (m_gref (by rfl) E.g_Came) m_nil))) m_nil))) (m_cons (m_tup (m_cons m_str (m_cons (m_blt (c_isX E.i_exc hz) (by rfl) E.n_isinstance (by rfl) (m_cons (m_v 0) (m_cons (m_gref (by rfl) E.g_Owed) m_nil))) m_nil))) (m_cons (m_tup (m_cons m_str (m_cons (m_blt (c_isX E.i_exc hz) (by rfl) E.n_isinstance (by rfl) (m_cons (m_v 0) (m_cons (m_gref (by rfl) E.g_Due) m_nil))) m_nil))) m_nil))))))
 (s_cons (s_set (i := 1) sc_law_which.nd rfl (by first | exact Or.inl rfl | exact Or.inr rfl) (m_bin op_addM (m_v 1) (m_lst (m_cons (m_tup (m_cons m_str (m_cons (m_blt (c_isX E.i_exc hz) (by rfl) E.n_isinstance (by rfl) (m_cons (m_v 0) (m_cons (m_gref (by rfl) E.g_NoLess) m_nil))) m_nil))) (m_cons (m_tup (m_cons m_str (m_cons (m_blt (c_isX E.i_exc hz) (by rfl) E.n_isinstance (by rfl) (m_cons (m_v 0) (m_cons (m_gref (by rfl) E.g_NoPaper) m_nil))) m_nil))) m_nil)))))
 (s_cons (s_set (i := 2) sc_law_which.nd rfl (by first | exact Or.inl rfl | exact Or.inr rfl) (m_lst (m_cons (m_tup (m_cons m_str (m_cons (m_blt (c_isX E.i_exc hz) (by rfl) E.n_isinstance (by rfl) (m_cons (m_v 0) (m_cons (m_gref (by rfl) E.g_NoHand) m_nil))) m_nil))) (m_cons (m_tup (m_cons m_str (m_cons (m_blt (c_isX E.i_exc hz) (by rfl) E.n_isinstance (by rfl) (m_cons (m_v 0) (m_cons (m_gref (by rfl) E.g_NoWire) m_nil))) m_nil))) (m_cons (m_tup (m_cons m_str (m_cons (m_blt (c_isX E.i_exc hz) (by rfl) E.n_isinstance (by rfl) (m_cons (m_v 0) (m_cons (m_gref (by rfl) E.g_NotOn) m_nil))) m_nil))) m_nil)))))
 (s_cons (s_set (i := 2) sc_law_which.nd rfl (by first | exact Or.inl rfl | exact Or.inr rfl) (m_bin op_addM (m_v 2) (m_lst (m_cons (m_tup (m_cons m_str (m_cons (m_blt (c_isX E.i_exc hz) (by rfl) E.n_isinstance (by rfl) (m_cons (m_v 0) (m_cons (m_gref (by rfl) E.g_IsOn) m_nil))) m_nil))) (m_cons (m_tup (m_cons m_str (m_cons (m_blt (c_isX E.i_exc hz) (by rfl) E.n_isinstance (by rfl) (m_cons (m_v 0) (m_cons (m_gref (by rfl) E.g_NoLetter) m_nil))) m_nil))) m_nil)))))
 (s_cons (s_setLcH (i := 3) (own := [("_law_word", 5), ("_law_is_so", 6)]) hz.hot sc_law_which.nd rfl rfl (by rfl) (i_lstH (m_bin op_addM (m_v 1) (m_v 2))) (blkOk_by (N := ["_law_e", "_law_kinds", "_law_looks", "_law_some", "_law_is_look", "_law_word", "_law_is_so"]) (sc := defScope s_law_which) (by decide +kernel)) ⟨fun _ _ _ _ _ hb => (b_tupH hb (b_cons (b_name (i := 5) sc_law_which.nd rfl (by first | exact Or.inl rfl | exact Or.inr rfl) (by decide)) (b_cons (b_name (i := 6) sc_law_which.nd rfl (by first | exact Or.inl rfl | exact Or.inr rfl) (by decide)) b_nil))), fun _ _ _ _ _ hb => (if_one (m_tval (m_v 6))), fun _ _ _ _ _ hb => (m_v 5)⟩)
 (s_cons (s_set (i := 4) sc_law_which.nd rfl (by first | exact Or.inl rfl | exact Or.inr rfl) (m_blt (c_anyH hz.hot) (by rfl) E.n_any (by rfl) (m_cons (m_lcH (own := [("_law_word", 5), ("_law_is_so", 6)]) hz.hot sc_law_which.nd (i_lstH (m_v 2)) (blkOk_by (N := ["_law_e", "_law_kinds", "_law_looks", "_law_some", "_law_is_look", "_law_word", "_law_is_so"]) (sc := defScope s_law_which) (by decide +kernel)) ⟨fun _ _ _ _ _ hb => (b_tupH hb (b_cons (b_name (i := 5) sc_law_which.nd rfl (by first | exact Or.inl rfl | exact Or.inr rfl) (by decide)) (b_cons (b_name (i := 6) sc_law_which.nd rfl (by first | exact Or.inl rfl | exact Or.inr rfl) (by decide)) b_nil))), fun _ _ _ _ _ hb => if_nil, fun _ _ _ _ _ hb => (m_v 6)⟩) m_nil)))
 (s_cons (s_if (PWm.t (m_wor (m_tcmp (op_neM hr.units) (m_blt c_len (by rfl) E.n_len (by rfl) (m_cons (m_v 3) m_nil)) m_int) (m_wor (m_tcmp (op_neM hr.units) (m_blt (c_isX E.i_exc hz) (by rfl) E.n_isinstance (by rfl) (m_cons (m_v 0) (m_cons (m_tyc (by rfl) E.n_LookupError (by rfl)) m_nil))) (m_v 4)) (m_wor1 (m_tcmp (op_eqM hr.units) (m_blt (c_isX E.i_exc hz) (by rfl) E.n_isinstance (by rfl) (m_cons (m_v 0) (m_cons (m_gref (by rfl) E.g_WireError) m_nil))) (m_v 4))))))
 (s_one (s_ret m_str))
 s_nil)
 (s_one (s_ret (m_if (m_tcmp (op_neM hr.units) (m_blt (c_isX E.i_exc hz) (by rfl) E.n_isinstance (by rfl) (m_cons (m_v 0) (m_cons (m_tyc (by rfl) E.n_ValueError (by rfl)) m_nil))) (m_v 4)) (m_ix ix_ixA (m_v 3) m_int) m_str)))))))))))))))))
theorem ok_law_next (E : En K w mg) : FM P w K mg base 4 E.a_law_next E.f_law_next ["_law_thing"] (F_law_next E.ad) := by
  refine fm_of (k := 3) (N := ["_law_thing", "_law_found", "_law_e"]) E.d_law_next sc_law_next fun cdv A outer s H X hr hG => ?_
  have tk := L2N.takes_of (X := cxOf (L2N.CX P w) P w K mg base ["_law_thing", "_law_found", "_law_e"] "_law_next" (defScope s_law_next) E.a_law_next cdv A outer s H X) (E := X) rfl rfl rfl rfl
  exact (s_cons (s_set (i := 1) sc_law_next.nd rfl (by first | exact Or.inl rfl | exact Or.inr rfl) m_str)
 (s_cons (s_try (i := 2) rfl rfl sc_law_next.nd rfl rfl (names_of (by rfl) E.g_WireError) tk (exT_ok E.e_WireError)
 (fun _ _ _ tk _ =>
 (s_one (s_set (i := 1) sc_law_next.nd rfl (by first | exact Or.inl rfl | exact Or.inr rfl) (m_call ((ok_next_name E).up (by decide)) hr hG tk (by rfl) E.g_next_name E.d_next_name.kp (b_next_name E) (m_cons (m_v 0) m_nil)))))
 (fun xa xD _ _ hz =>
 (s_one (s_ret (m_tup (m_cons (m_callH ((okH_law_which E xa xD).up (by decide)) (roomS hr) hG hz takesF (by rfl) E.g_law_which E.d_law_which.kp (b_law_which E) (m_cons (m_v 2) m_nil)) m_nil))))))
 (s_one (s_ret (m_v 1)))))
theorem ok_law_odd_name (E : En K w mg) : FM P w K mg base 2 E.a_law_odd_name E.f_law_odd_name ["_law_bag_here", "_law_name"] (F_law_odd_name E.ad) := by
  refine fm_of (k := 1) (N := ["_law_bag_here", "_law_name", "_law_signs", "_law_sign", "_law_spot", "_law_some"]) E.d_law_odd_name sc_law_odd_name fun cdv A outer s H X hr hG => ?_
  have tk := L2N.takes_of (X := cxOf (L2N.CX P w) P w K mg base ["_law_bag_here", "_law_name", "_law_signs", "_law_sign", "_law_spot", "_law_some"] "_law_odd_name" (defScope s_law_odd_name) E.a_law_odd_name cdv A outer s H X) (E := X) rfl rfl rfl rfl
  exact (s_cons (s_set (i := 2) sc_law_odd_name.nd rfl (by first | exact Or.inl rfl | exact Or.inr rfl) m_str)
 (s_cons (s_par2 (i := 3) (j := 4) rfl sc_law_odd_name.nd rfl rfl (by decide) rfl rfl (m_cons (m_ix ix_ixA (m_v 2) (m_call ((ok_law_take E).up (by decide)) hr hG tk (by rfl) E.g_law_take E.d_law_take.kp (b_law_take E) (m_cons (m_v 0) (m_cons m_int m_nil)))) (m_cons (m_call ((ok_law_take E).up (by decide)) hr hG tk (by rfl) E.g_law_take E.d_law_take.kp (b_law_take E) (m_cons (m_v 0) (m_cons (m_bin op_addM (m_blt c_len (by rfl) E.n_len (by rfl) (m_cons (m_v 1) m_nil)) m_int) m_nil))) m_nil)) (by rfl))
 (s_cons (s_set (i := 5) sc_law_odd_name.nd rfl (by first | exact Or.inl rfl | exact Or.inr rfl) (m_lst (m_cons (m_bin op_addM (m_bin op_addM (m_slice (m_v 1) o_none (o_some (m_v 4))) (m_v 3)) (m_slice (m_v 1) (o_some (m_v 4)) o_none)) (m_cons (m_bin op_addM (m_slice (m_v 1) o_none (o_some (m_v 4))) (m_slice (m_v 1) (o_some (m_bin op_addM (m_v 4) m_int)) o_none)) (m_cons (m_bin op_addM (m_bin op_addM (m_slice (m_v 1) o_none (o_some (m_v 4))) (m_v 3)) (m_slice (m_v 1) (o_some (m_bin op_addM (m_v 4) m_int)) o_none)) m_nil)))))
 (s_cons (s_expr (m_append (m_v 5) (m_cons (m_bin op_addM (m_bin op_addM (m_slice (m_v 1) o_none (o_some (m_v 4))) (m_revS (m_slice (m_v 1) (o_some (m_v 4)) (o_some (m_bin op_addM (m_v 4) m_int))))) (m_slice (m_v 1) (o_some (m_bin op_addM (m_v 4) m_int)) o_none)) m_nil)))
 (s_cons (s_set (i := 5) sc_law_odd_name.nd rfl (by first | exact Or.inl rfl | exact Or.inr rfl) (m_bin op_addM (m_v 5) (m_lst (m_cons (m_bin op_addM (m_v 1) (m_v 1)) (m_cons (m_bin op_addM (m_v 1) (m_v 3)) (m_cons (m_bin op_addM (m_v 3) (m_v 1)) m_nil))))))
 (s_cons (s_set (i := 5) sc_law_odd_name.nd rfl (by first | exact Or.inl rfl | exact Or.inr rfl) (m_bin op_addM (m_v 5) (m_lst (m_cons m_non (m_cons m_bl (m_cons m_int (m_cons m_int (m_cons (m_bin op_powM m_int m_int) (m_cons m_str (m_cons m_str (m_cons m_str (m_cons m_str (m_cons m_str (m_cons m_str (m_cons m_str (m_cons m_str (m_cons m_str m_nil)))))))))))))))))
 (s_one (s_ret (m_ix ix_ixA (m_bin op_addM (m_v 5) (m_lst (m_cons m_str (m_cons (m_tup (m_cons (m_v 1) m_nil)) (m_cons (m_lst (m_cons (m_v 1) m_nil)) (m_cons (m_lst m_nil) (m_cons (m_tup (m_cons m_str (m_cons m_str m_nil))) m_nil))))))) (m_call ((ok_law_take E).up (by decide)) hr hG tk (by rfl) E.g_law_take E.d_law_take.kp (b_law_take E) (m_cons (m_v 0) (m_cons m_int m_nil))))))))))))
theorem ok_law (E : En K w mg) : FM P w K mg base 5 E.a_law E.f_law ["_law_script"] (F_law E.ad) := by
  refine fm_of (k := 4) (N := ["_law_script", "_law_at", "_law_bag_here", "_law_turn", "_law_name", "_law_step", "_law_told", "_law_thing"]) E.d_law sc_law fun cdv A outer s H X hr hG => ?_
  have tk := L2N.takes_of (X := cxOf (L2N.CX P w) P w K mg base ["_law_script", "_law_at", "_law_bag_here", "_law_turn", "_law_name", "_law_step", "_law_told", "_law_thing"] "law" (defScope s_law) E.a_law cdv A outer s H X) (E := X) rfl rfl rfl rfl
  exact (s_cons (s_for (passes_of rfl) rfl (i_rg1 (by rfl) E.n_range (m_cons (m_blt (c_max2 rfl) (by rfl) E.n_max (by rfl) (m_cons m_int (m_cons (m_blt (c_min2 rfl) (by rfl) E.n_min (by rfl) (m_cons m_int (m_cons (m_blt c_len (by rfl) E.n_len (by rfl) (m_cons (m_v 0) m_nil)) m_nil))) m_nil))) m_nil)) (g_name sc_law.nd (i := 1) rfl (by first | exact Or.inl rfl | exact Or.inr rfl)) st_nm
 (s_cons (s_set (i := 2) sc_law.nd rfl (by first | exact Or.inl rfl | exact Or.inr rfl) (m_call ((ok_law_bag E).up (by decide)) hr hG tk (by rfl) E.g_law_bag E.d_law_bag.kp (b_law_bag E) (m_cons (m_v 0) (m_cons (m_v 1) m_nil))))
 (s_one (s_for (passes_of rfl) rfl (i_rg1 (by rfl) E.n_range (m_cons m_int m_nil)) (g_name sc_law.nd (i := 3) rfl (by first | exact Or.inl rfl | exact Or.inr rfl)) st_nm
 (s_cons (s_set (i := 4) sc_law.nd rfl (by first | exact Or.inl rfl | exact Or.inr rfl) (m_call ((ok_law_drawn_name E).up (by decide)) hr hG tk (by rfl) E.g_law_drawn_name E.d_law_drawn_name.kp (b_law_drawn_name E) (m_cons (m_v 2) m_nil)))
 (s_cons (s_for (passes_of rfl) rfl (i_rg1 (by rfl) E.n_range (m_cons m_int m_nil)) (g_name sc_law.nd (i := 5) rfl (by first | exact Or.inl rfl | exact Or.inr rfl)) st_nm
 (s_cons (s_set (i := 6) sc_law.nd rfl (by first | exact Or.inl rfl | exact Or.inr rfl) (m_call ((ok_law_next E).up (by decide)) hr hG tk (by rfl) E.g_law_next E.d_law_next.kp (b_law_next E) (m_cons (m_v 4) m_nil)))
 (s_cons (s_if (PWm.t (m_wor (m_tcmp (op_neM hr.units) (m_v 6) (m_call ((ok_law_due E).up (by decide)) hr hG tk (by rfl) E.g_law_due E.d_law_due.kp (b_law_due E) (m_cons (m_v 4) m_nil))) (m_wor (m_tcmp (op_neM hr.units) (m_call ((ok_next_name E).up (by decide)) hr hG tk (by rfl) E.g_next_name E.d_next_name.kp (b_next_name E) (m_cons m_str m_nil)) m_str) (m_wor1 (m_tcmp (op_neM hr.units) (m_call ((ok_law_next E).up (by decide)) hr hG tk (by rfl) E.g_law_next E.d_law_next.kp (b_law_next E) (m_cons (m_v 4) m_nil)) (m_v 6))))))
 (s_one (s_ret m_bl))
 s_nil)
 (s_cons (s_if (m_tnot (m_tval (m_blt (c_isi isiB_ok) (by rfl) E.n_isinstance (by rfl) (m_cons (m_v 6) (m_cons (m_tyc (by rfl) E.n_str (by rfl)) m_nil)))))
 (s_one s_break)
 s_nil)
 (s_cons (s_if (m_tnot (m_tval (m_call ((ok_is_name E).up (by decide)) hr hG tk (by rfl) E.g_is_name E.d_is_name.kp (b_is_name E) (m_cons (m_v 6) m_nil))))
 (s_one (s_ret m_bl))
 s_nil)
 (s_one (s_set (i := 4) sc_law.nd rfl (by first | exact Or.inl rfl | exact Or.inr rfl) (m_v 6))))))))
 (s_cons (s_if (m_tcmp (op_neM hr.units) (m_call ((ok_law_next E).up (by decide)) hr hG tk (by rfl) E.g_law_next E.d_law_next.kp (b_law_next E) (m_cons (m_v 4) m_nil)) (m_tup (m_cons m_str m_nil)))
 (s_one (s_ret m_bl))
 s_nil)
 (s_one (s_for (passes_of rfl) rfl (i_val (m_lst (m_cons (m_call ((ok_law_odd_name E).up (by decide)) hr hG tk (by rfl) E.g_law_odd_name E.d_law_odd_name.kp (b_law_odd_name E) (m_cons (m_v 2) (m_cons (m_v 4) m_nil))) (m_cons (m_call ((ok_law_odd_name E).up (by decide)) hr hG tk (by rfl) E.g_law_odd_name E.d_law_odd_name.kp (b_law_odd_name E) (m_cons (m_v 2) (m_cons (m_call ((ok_law_drawn_name E).up (by decide)) hr hG tk (by rfl) E.g_law_drawn_name E.d_law_drawn_name.kp (b_law_drawn_name E) (m_cons (m_v 2) m_nil)) m_nil))) m_nil)))) (g_name sc_law.nd (i := 7) rfl (by first | exact Or.inl rfl | exact Or.inr rfl)) st_nm
 (s_one (s_if (m_tcmp (op_neM hr.units) (m_call ((ok_law_next E).up (by decide)) hr hG tk (by rfl) E.g_law_next E.d_law_next.kp (b_law_next E) (m_cons (m_v 7) m_nil)) (m_call ((ok_law_due E).up (by decide)) hr hG tk (by rfl) E.g_law_due E.d_law_due.kp (b_law_due E) (m_cons (m_v 7) m_nil)))
 (s_one (s_ret m_bl))
 s_nil)))))))))))
 (s_one (s_ret m_bl)))
end
/-! ### the head -/
def dd_law_bag : He.DefD := ⟨("_law_bag", none), "_law_bag", "_law_bag", defArgs s_law_bag, defBody s_law_bag, defScope s_law_bag, [], []⟩
def dd_law_take : He.DefD := ⟨("_law_take", none), "_law_take", "_law_take", defArgs s_law_take, defBody s_law_take, defScope s_law_take, [], []⟩
def dd_law_drawn_name : He.DefD := ⟨("_law_drawn_name", none), "_law_drawn_name", "_law_drawn_name", defArgs s_law_drawn_name, defBody s_law_drawn_name, defScope s_law_drawn_name, [], []⟩
def dd_law_good_name : He.DefD := ⟨("_law_good_name", none), "_law_good_name", "_law_good_name", defArgs s_law_good_name, defBody s_law_good_name, defScope s_law_good_name, [], []⟩
def dd_law_due : He.DefD := ⟨("_law_due", none), "_law_due", "_law_due", defArgs s_law_due, defBody s_law_due, defScope s_law_due, [], []⟩
def dd_is_name : He.DefD := ⟨("is_name", none), "is_name", "is_name", defArgs s_is_name, defBody s_is_name, defScope s_is_name, [], []⟩
def dd_look_name : He.DefD := ⟨("look_name", none), "look_name", "look_name", defArgs s_look_name, defBody s_look_name, defScope s_look_name, [], []⟩
def dd_next_name : He.DefD := ⟨("next_name", none), "next_name", "next_name", defArgs s_next_name, defBody s_next_name, defScope s_next_name, [], []⟩
def dd_law_which : He.DefD := ⟨("_law_which", none), "_law_which", "_law_which", defArgs s_law_which, defBody s_law_which, defScope s_law_which, [], []⟩
def dd_law_next : He.DefD := ⟨("_law_next", none), "_law_next", "_law_next", defArgs s_law_next, defBody s_law_next, defScope s_law_next, [], []⟩
def dd_law_odd_name : He.DefD := ⟨("_law_odd_name", none), "_law_odd_name", "_law_odd_name", defArgs s_law_odd_name, defBody s_law_odd_name, defScope s_law_odd_name, [], []⟩
def dd_law : He.DefD := ⟨("law", none), "law", "law", defArgs s_law, defBody s_law, defScope s_law, [], []⟩
def fn : List He.DefD := [dd_law_bag, dd_law_take, dd_law_drawn_name, dd_law_good_name, dd_law_due, dd_is_name, dd_look_name, dd_next_name, dd_law_which, dd_law_next, dd_law_odd_name, dd_law]
def adK (K : PySem.W.Frag) : Ad := ⟨He.ga K "Came", He.ga K "Claimed", He.ga K "Due", He.ga K "Early", He.ga K "IsOn", He.ga K "NoBounds", He.ga K "NoClaim", He.ga K "NoHand", He.ga K "NoHands", He.ga K "NoLess", He.ga K "NoLetter", He.ga K "NoMark", He.ga K "NoName", He.ga K "NoNext", He.ga K "NoPaper", He.ga K "NoRule", He.ga K "NoSaying", He.ga K "NoScript", He.ga K "NoTries", He.ga K "NoWire", He.ga K "NotEmpty", He.ga K "NotOn", He.ga K "Owed", He.ga K "SameWire", He.ga K "TooMany", He.ga K "WireError"⟩
def fa : List He.Fa := [.glo "Came", .glo "Claimed", .glo "Due", .glo "Early", .glo "IsOn", .glo "NoBounds", .glo "NoClaim", .glo "NoHand", .glo "NoHands", .glo "NoLess", .glo "NoLetter", .glo "NoMark", .glo "NoName", .glo "NoNext", .glo "NoPaper", .glo "NoRule", .glo "NoSaying", .glo "NoScript", .glo "NoTries", .glo "NoWire", .glo "NotEmpty", .glo "NotOn", .glo "Owed", .glo "SameWire", .glo "TooMany", .glo "WireError", .glo "_law_bag", .glo "_law_take", .glo "_law_drawn_name", .glo "_law_good_name", .glo "_law_due", .glo "is_name", .glo "look_name", .glo "next_name", .glo "_law_which", .glo "_law_next", .glo "_law_odd_name", .glo "law", .free "LookupError", .free "ValueError", .free "abs", .free "all", .free "any", .free "int", .free "isinstance", .free "len", .free "list", .free "max", .free "min", .free "range", .free "str", .glo "FIGURES", .str "LAST" "9", .str "LETTERS" "abcdefghijklmnopqrstuvwxyz", .int "MOST_LETTERS" 8]
def ts : List He.Tab := []
def ex (K : PySem.W.Frag) : Bool := (tabI (adK K)).all (kitB1 K) && (insAll K (dsI (adK K)) (tabI (adK K)) && (He.lstB K "FIGURES" v_FIGURES && (excKB K (He.ga K "NoName") He.veBase "ValueError.__new__" && (excKB K (He.ga K "NoNext") He.veBase "ValueError.__new__" && (isxB K (dsX (adK K)) (tabX (adK K)) && (exTB K (.ref (He.ga K "WireError")) (tabE (adK K))))))))
abbrev R : PySem.W.OpenRow := PySem.W.OpenLaw.row PySem.Challenge.rw_wirenames_k02_next_names
abbrev hk : PySem.W.Hook := He.hookX 4 fa fn ts [] ex
def ob (s : PySem.W.SharedT) : He.AlX := He.obsX 4 fa fn ts [] ex (HandSHeadRun.getT s)
theorem ob_eq (s : PySem.W.SharedT) : ob s = hk.obs s.abs := He.obsX_eq (HandSHeadRun.getT_eq s)
end K02
namespace K02
open PySem PySem.Spec PyProof.Rows L2 Z
def loose : List PySem.Str := ((["WireError", "NoName", "NoMark", "NoTries", "NoBounds", "NoRule", "NoHands", "NoNext", "NoLess", "NoPaper", "NoSaying", "TooMany", "Claimed", "NoClaim", "SameWire", "NotEmpty", "NoScript", "Early", "Came", "Owed", "Due", "NoHand", "NoWire", "NotOn", "IsOn"] : List PySem.Str) ++ (["NoLetter", "LETTERS", "FIGURES", "LAST", "MOST_LETTERS", "is_name", "look_name", "next_name", "_law_bag", "_law_take", "_law_which", "_law_good_name", "_law_drawn_name", "_law_odd_name", "_law_next", "_law_due"] : List PySem.Str))
abbrev RunP (w : World) : Prop := HandSHeadRun.RunEq R (PySem.W.view R.prog [44]) hk ob 20000 loose w
theorem run_false (w : World) : RunP (w.withFollow "special-get-raises" false) := by
  intro os
  kernel_rfl
theorem run_true (w : World) : RunP (w.withFollow "special-get-raises" true) := by
  intro os
  kernel_rfl
theorem run (w : World) : RunP w := PySem.W.byRow2 "special-get-raises" run_false run_true w
theorem en_of {w : World} {K : PySem.W.Frag} {h : Heap} {mg : Str → Option Value} (X : K.In h) (G : h.Ns mainGlobals mg) (c : He.SaysX fa fn ts [] ex w h K) : ∃ E : En K w mg, E.ad = adK K := by
  obtain ⟨f_law_bag, d_law_bag⟩ := c.t.d.def_ 0 (d := dd_law_bag) rfl
  obtain ⟨f_law_take, d_law_take⟩ := c.t.d.def_ 1 (d := dd_law_take) rfl
  obtain ⟨f_law_drawn_name, d_law_drawn_name⟩ := c.t.d.def_ 2 (d := dd_law_drawn_name) rfl
  obtain ⟨f_law_good_name, d_law_good_name⟩ := c.t.d.def_ 3 (d := dd_law_good_name) rfl
  obtain ⟨f_law_due, d_law_due⟩ := c.t.d.def_ 4 (d := dd_law_due) rfl
  obtain ⟨f_is_name, d_is_name⟩ := c.t.d.def_ 5 (d := dd_is_name) rfl
  obtain ⟨f_look_name, d_look_name⟩ := c.t.d.def_ 6 (d := dd_look_name) rfl
  obtain ⟨f_next_name, d_next_name⟩ := c.t.d.def_ 7 (d := dd_next_name) rfl
  obtain ⟨f_law_which, d_law_which⟩ := c.t.d.def_ 8 (d := dd_law_which) rfl
  obtain ⟨f_law_next, d_law_next⟩ := c.t.d.def_ 9 (d := dd_law_next) rfl
  obtain ⟨f_law_odd_name, d_law_odd_name⟩ := c.t.d.def_ 10 (d := dd_law_odd_name) rfl
  obtain ⟨f_law, d_law⟩ := c.t.d.def_ 11 (d := dd_law) rfl
  have hx : ex K = true := c.more
  unfold ex at hx
  simp only [Bool.and_eq_true] at hx
  obtain ⟨hx_kit, hx_ins, hx_FIGURES, hx_xNoName, hx_xNoNext, hx_exc, hx_eWireError⟩ := hx
  exact ⟨{ ad := adK K, i_kit := hx_kit, i_ins := hx_ins, x_NoName := hx_xNoName, x_NoNext := hx_xNoNext, i_exc := hx_exc, e_WireError := hx_eWireError, a_law_bag := _, f_law_bag := f_law_bag, d_law_bag := d_law_bag, a_law_take := _, f_law_take := f_law_take, d_law_take := d_law_take, a_law_drawn_name := _, f_law_drawn_name := f_law_drawn_name, d_law_drawn_name := d_law_drawn_name, a_law_good_name := _, f_law_good_name := f_law_good_name, d_law_good_name := d_law_good_name, a_law_due := _, f_law_due := f_law_due, d_law_due := d_law_due, a_is_name := _, f_is_name := f_is_name, d_is_name := d_is_name, a_look_name := _, f_look_name := f_look_name, d_look_name := d_look_name, a_next_name := _, f_next_name := f_next_name, d_next_name := d_next_name, a_law_which := _, f_law_which := f_law_which, d_law_which := d_law_which, a_law_next := _, f_law_next := f_law_next, d_law_next := d_law_next, a_law_odd_name := _, f_law_odd_name := f_law_odd_name, d_law_odd_name := d_law_odd_name, a_law := _, f_law := f_law, d_law := d_law, g_Came := He.glo_ok X G (c.t.d.fact 0 (f := .glo "Came") rfl), g_Claimed := He.glo_ok X G (c.t.d.fact 1 (f := .glo "Claimed") rfl), g_Due := He.glo_ok X G (c.t.d.fact 2 (f := .glo "Due") rfl), g_Early := He.glo_ok X G (c.t.d.fact 3 (f := .glo "Early") rfl), g_IsOn := He.glo_ok X G (c.t.d.fact 4 (f := .glo "IsOn") rfl), g_NoBounds := He.glo_ok X G (c.t.d.fact 5 (f := .glo "NoBounds") rfl), g_NoClaim := He.glo_ok X G (c.t.d.fact 6 (f := .glo "NoClaim") rfl), g_NoHand := He.glo_ok X G (c.t.d.fact 7 (f := .glo "NoHand") rfl), g_NoHands := He.glo_ok X G (c.t.d.fact 8 (f := .glo "NoHands") rfl), g_NoLess := He.glo_ok X G (c.t.d.fact 9 (f := .glo "NoLess") rfl), g_NoLetter := He.glo_ok X G (c.t.d.fact 10 (f := .glo "NoLetter") rfl), g_NoMark := He.glo_ok X G (c.t.d.fact 11 (f := .glo "NoMark") rfl), g_NoName := He.glo_ok X G (c.t.d.fact 12 (f := .glo "NoName") rfl), g_NoNext := He.glo_ok X G (c.t.d.fact 13 (f := .glo "NoNext") rfl), g_NoPaper := He.glo_ok X G (c.t.d.fact 14 (f := .glo "NoPaper") rfl), g_NoRule := He.glo_ok X G (c.t.d.fact 15 (f := .glo "NoRule") rfl), g_NoSaying := He.glo_ok X G (c.t.d.fact 16 (f := .glo "NoSaying") rfl), g_NoScript := He.glo_ok X G (c.t.d.fact 17 (f := .glo "NoScript") rfl), g_NoTries := He.glo_ok X G (c.t.d.fact 18 (f := .glo "NoTries") rfl), g_NoWire := He.glo_ok X G (c.t.d.fact 19 (f := .glo "NoWire") rfl), g_NotEmpty := He.glo_ok X G (c.t.d.fact 20 (f := .glo "NotEmpty") rfl), g_NotOn := He.glo_ok X G (c.t.d.fact 21 (f := .glo "NotOn") rfl), g_Owed := He.glo_ok X G (c.t.d.fact 22 (f := .glo "Owed") rfl), g_SameWire := He.glo_ok X G (c.t.d.fact 23 (f := .glo "SameWire") rfl), g_TooMany := He.glo_ok X G (c.t.d.fact 24 (f := .glo "TooMany") rfl), g_WireError := He.glo_ok X G (c.t.d.fact 25 (f := .glo "WireError") rfl), g_law_bag := He.glo_ok X G (c.t.d.fact 26 (f := .glo "_law_bag") rfl), g_law_take := He.glo_ok X G (c.t.d.fact 27 (f := .glo "_law_take") rfl), g_law_drawn_name := He.glo_ok X G (c.t.d.fact 28 (f := .glo "_law_drawn_name") rfl), g_law_good_name := He.glo_ok X G (c.t.d.fact 29 (f := .glo "_law_good_name") rfl), g_law_due := He.glo_ok X G (c.t.d.fact 30 (f := .glo "_law_due") rfl), g_is_name := He.glo_ok X G (c.t.d.fact 31 (f := .glo "is_name") rfl), g_look_name := He.glo_ok X G (c.t.d.fact 32 (f := .glo "look_name") rfl), g_next_name := He.glo_ok X G (c.t.d.fact 33 (f := .glo "next_name") rfl), g_law_which := He.glo_ok X G (c.t.d.fact 34 (f := .glo "_law_which") rfl), g_law_next := He.glo_ok X G (c.t.d.fact 35 (f := .glo "_law_next") rfl), g_law_odd_name := He.glo_ok X G (c.t.d.fact 36 (f := .glo "_law_odd_name") rfl), g_law := He.glo_ok X G (c.t.d.fact 37 (f := .glo "law") rfl), n_LookupError := He.free_ok X G (c.t.d.fact 38 (f := .free "LookupError") rfl), n_ValueError := He.free_ok X G (c.t.d.fact 39 (f := .free "ValueError") rfl), n_abs := He.free_ok X G (c.t.d.fact 40 (f := .free "abs") rfl), n_all := He.free_ok X G (c.t.d.fact 41 (f := .free "all") rfl), n_any := He.free_ok X G (c.t.d.fact 42 (f := .free "any") rfl), n_int := He.free_ok X G (c.t.d.fact 43 (f := .free "int") rfl), n_isinstance := He.free_ok X G (c.t.d.fact 44 (f := .free "isinstance") rfl), n_len := He.free_ok X G (c.t.d.fact 45 (f := .free "len") rfl), n_list := He.free_ok X G (c.t.d.fact 46 (f := .free "list") rfl), n_max := He.free_ok X G (c.t.d.fact 47 (f := .free "max") rfl), n_min := He.free_ok X G (c.t.d.fact 48 (f := .free "min") rfl), n_range := He.free_ok X G (c.t.d.fact 49 (f := .free "range") rfl), n_str := He.free_ok X G (c.t.d.fact 50 (f := .free "str") rfl), a_FIGURES := _, g_FIGURES := He.glo_ok X G (c.t.d.fact 51 (f := .glo "FIGURES") rfl), c_FIGURES := He.lstB_ok hx_FIGURES _, t_LAST := _, c_LAST := ⟨(He.str_ok X G (c.t.d.fact 52 (f := .str "LAST" "9") rfl)).choose_spec, _, rfl⟩, t_LETTERS := _, c_LETTERS := ⟨(He.str_ok X G (c.t.d.fact 53 (f := .str "LETTERS" "abcdefghijklmnopqrstuvwxyz") rfl)).choose_spec, _, rfl⟩, t_MOST_LETTERS := _, c_MOST_LETTERS := ⟨(He.int_ok X G (c.t.d.fact 54 (f := .int "MOST_LETTERS" 8) rfl)).choose_spec, _, rfl⟩ }, rfl⟩
end K02
section
open PySem PySem.W PySem.Calls PyProof.Rows
theorem K02.fin (hwin : ∀ A : K02.Ad, Z.Cons (K02.tabI A) → Z.Cons (K02.tabX A) → ∀ ns : List Int, ns.length ≤ 63 → Z.WinF (K02.F_law A) ns) : PySem.Challenge.rw_wirenames_k02_next_names.Holds := by
  w_on; o_law
  refine HandSHeadRun.head_any (r := OpenLaw.row PySem.Challenge.rw_wirenames_k02_next_names) (q := view (OpenLaw.row PySem.Challenge.rw_wirenames_k02_next_names).prog [44]) (H := K02.hk) (ob := K02.ob) (M := 20000) (loose := K02.loose) (d := HandSHeadRun.topDef (OpenLaw.row PySem.Challenge.rw_wirenames_k02_next_names).prog 44) (kwd := []) K02.ob_eq
    (by kernel_rfl) (fun s => by kernel_rfl) K02.run (by kernel_rfl) (by kernel_rfl) (by kernel_rfl) (by rfl) (by first | assumption | decide +kernel) (by decide +kernel) ⟨rfl, rfl, rfl, rfl, rfl, by decide +kernel⟩ ?hw ?hc
  case hw => w_witness2
  case hc =>
    refine Z.walk_G (l := PySem.Challenge.rw_wirenames_k02_next_names) (n := 63) (k := 5) (x := "_law_script") rfl (by decide) (by kernel_rfl) ⟨rfl, by decide, by decide⟩ ?F
    intro w mg fa h Y G hmg0
    obtain ⟨K, KX, c⟩ := Y
    have hmg : mg ("law" : PySem.Str) = some (.ref fa) := by
      have e : (HandSHeadRun.topDef (OpenLaw.row PySem.Challenge.rw_wirenames_k02_next_names).prog 44).name = ("law" : PySem.Str) := by kernel_rfl
      rw [← e]
      exact hmg0
    obtain ⟨E, hE⟩ := K02.en_of KX G c
    have same := E.g_law.symm.trans hmg
    cases same
    exact ⟨K, E.f_law, K02.F_law E.ad, KX, fun s v => E.d_law.bindsA (ps := ["_law_script"]) (fun _ _ _ _ _ _ us hl => match us, hl with | [_], _ => rfl) s [v] rfl, hwin E.ad (Z.cons_of (Z.kitB1_ok E.i_kit)) (Z.cons_of (Z.isxB_kit E.i_exc)), fun base _ _ => K02.ok_law E⟩
end
/-! The plain side: what stands, by a list of blocks of cells; wishes for attributes, dicts, making. -/
namespace Z
open PySem PyProof.Rows L2
abbrev Blk := List (Nat × AO)
/-- these cells stand, each at its own number -/
def Rp (bs : List Blk) (h : Hv) : Prop := (bs.flatten.map (·.1)).Nodup ∧ ∀ c ∈ bs.flatten, h[c.1]? = some c.2
section
variable {bs bs' : List Blk} {b b' : Blk} {h h' : Hv} {r : Nat} {o o' : AO}
theorem Rp.mem {c : Nat × AO} (H : Rp bs h) (hb : b ∈ bs) (hc : c ∈ b) : h[c.1]? = some c.2 := H.2 c (List.mem_flatten.mpr ⟨b, hb, hc⟩)
theorem Rp.at (H : Rp bs h) (i : Nat) (e : bs[i]? = some [(r, o)]) : h[r]? = some o := H.mem (c := (r, o)) (List.mem_of_getElem? e) (by simp)
theorem Rp.lt {c : Nat × AO} (H : Rp bs h) (hc : c ∈ bs.flatten) : c.1 < h.length := at_lt (H.2 c hc)
theorem Rp.gr (H : Rp bs h) (g : Gr h h') : Rp bs h' := ⟨H.1, fun c hc => g _ _ (H.2 c hc)⟩
theorem Rp.nil : Rp [] h := ⟨List.nodup_nil, fun c hc => by simp at hc⟩
theorem Rp.perm (H : Rp bs h) (p : bs.Perm bs') : Rp bs' h := by
  have q : bs.flatten.Perm bs'.flatten := p.flatten
  exact ⟨(q.map (·.1)).nodup_iff.mp H.1, fun c hc => H.2 c (q.mem_iff.mpr hc)⟩
theorem flat_sub : ∀ {l l' : List Blk}, l'.Sublist l → l'.flatten.Sublist l.flatten := fun s => by
  induction s with
  | slnil => exact List.Sublist.refl _
  | cons a _ ih => exact ih.trans (by simp)
  | cons_cons a _ ih => exact List.Sublist.append (List.Sublist.refl _) ih
theorem Rp.sub (H : Rp bs h) (s : bs'.Sublist bs) : Rp bs' h := by
  have q := flat_sub s
  exact ⟨(q.map (·.1)).nodup H.1, fun c hc => H.2 c (q.subset hc)⟩
theorem Rp.er (H : Rp bs h) (i : Nat) : Rp (bs.eraseIdx i) h := H.sub (List.eraseIdx_sublist _ _)
theorem Rp.tl (H : Rp (b :: bs) h) : Rp bs h := H.sub (List.sublist_cons_self _ _)
/-- the cells of the first block, otherwise cut -/
theorem Rp.cut {l : List Blk} (H : Rp (b :: bs) h) (e : l.flatten = b) : Rp (l ++ bs) h := by
  unfold Rp at H ⊢
  rw [List.flatten_append, e]
  simpa using H
theorem Rp.glue {l : List Blk} (H : Rp (l ++ bs) h) : Rp (l.flatten :: bs) h := by
  unfold Rp at H ⊢
  rw [List.flatten_append] at H
  simpa using H
theorem set_perm {α : Type} : ∀ {l : List α} {i : Nat} {x y : α}, l[i]? = some x → l.Perm (x :: l.eraseIdx i) ∧ (l.set i y).Perm (y :: l.eraseIdx i)
  | [], i, x, y, e => by simp at e
  | a :: l, 0, x, y, e => by cases e; exact ⟨.refl _, .refl _⟩
  | a :: l, i + 1, x, y, e => by
    obtain ⟨p, q⟩ := set_perm (l := l) (i := i) (x := x) (y := y) (by simpa using e)
    exact ⟨(p.cons a).trans (.swap _ _ _), (q.cons a).trans (.swap _ _ _)⟩
/-- a block to the front -/
theorem Rp.front (H : Rp bs h) (i : Nat) (e : bs[i]? = some b) : Rp (b :: bs.eraseIdx i) h := H.perm (set_perm (y := b) e).1
/-- a new cell -/
theorem Rp.new (H : Rp bs h) : Rp ([(h.length, o)] :: bs) (h ++ [o]) := by
  refine ⟨?_, fun c hc => ?_⟩
  · simp only [List.flatten_cons, List.map_append, List.map_cons, List.map_nil, List.singleton_append, List.nodup_cons]
    refine ⟨fun m => ?_, H.1⟩
    obtain ⟨c, hc, e⟩ := List.mem_map.mp m
    have := H.lt hc
    omega
  · rcases List.mem_append.mp (show c ∈ [(h.length, o)] ++ bs.flatten from hc) with hc | hc
    · obtain rfl := List.mem_singleton.mp hc
      exact at_new
    · exact at_app (H.2 c hc)
/-- the first block's one cell, changed -/
theorem Rp.set0 (H : Rp ([(r, o)] :: bs) h) : Rp ([(r, o')] :: bs) (h.set r o') := by
  have hr : h[r]? = some o := H.mem (c := (r, o)) (b := [(r, o)]) (by simp) (by simp)
  have nd := H.1
  simp only [List.flatten_cons, List.map_append, List.map_cons, List.map_nil, List.singleton_append, List.nodup_cons] at nd
  refine ⟨by simpa using H.1, fun c hc => ?_⟩
  rcases List.mem_append.mp (show c ∈ [(r, o')] ++ bs.flatten from hc) with hc | hc
  · obtain rfl := List.mem_singleton.mp hc
    exact at_set hr
  · refine at_ne (fun e => nd.1 ?_) (H.tl.2 c hc)
    rw [e]; exact List.mem_map.mpr ⟨c, hc, rfl⟩
theorem Rp.set (H : Rp bs h) (i : Nat) (e : bs[i]? = some [(r, o)]) (o' : AO) : Rp (bs.set i [(r, o')]) (h.set r o') := by
  obtain ⟨p, q⟩ := set_perm (y := [(r, o')]) e
  exact ((H.perm p).set0 (o' := o')).perm q.symm
/-- a block for another one, where the rest may be any -/
theorem Rp.swap (H : Rp bs h) (i : Nat) (e : bs[i]? = some b) (f : ∀ bs2, Rp (b :: bs2) h → Rp (b' :: bs2) h') : Rp (bs.set i b') h' := by
  obtain ⟨p, q⟩ := set_perm (y := b') e
  exact (f _ (H.perm p)).perm q.symm
theorem Rp.ne (H : Rp bs h) {i j : Nat} {r' : Nat} (e : bs[i]? = some [(r, o)]) (e' : bs[j]? = some [(r', o')]) (d : i ≠ j) : r ≠ r' := by
  intro er
  subst er
  obtain ⟨p, _⟩ := set_perm (y := ([] : Blk)) e
  have H2 := H.perm p
  have nd := H2.1
  simp only [List.flatten_cons, List.map_append, List.map_cons, List.map_nil, List.singleton_append, List.nodup_cons] at nd
  refine nd.1 (List.mem_map.mpr ⟨(r, o'), List.mem_flatten.mpr ⟨[(r, o')], ?_, by simp⟩, rfl⟩)
  have : (bs.eraseIdx i)[if j < i then j else j - 1]? = some [(r, o')] := by
    grind
  exact List.mem_of_getElem? this
end
/-! ### wishes -/
section
variable {e : Ev} {h : Hv} {X : XH} {N B C : Ev → Hv → Prop} {T : W → Hv → Prop} {Q : W → Hv → Prop} {QS : Src → Hv → Prop} {QB : Bool → Hv → Prop} {ma mb mo mv : ME W} {ml mk : ME (List W)} {mt : ME Bool}
theorem w_insAt {Cs : List Addr} {n : Nat} {D : Addr} {fs : List (Str × W)} (e1 : h[n]? = some (.ins D fs)) (c : D ∈ Cs) : insAt Cs h (.ref n) = some (n, D, fs) := by
  unfold insAt
  simp only [e1]
  rw [if_pos c]
theorem w_fldAt {Cs : List Addr} {f : Str} {n : Nat} {D : Addr} {fs : List (Str × W)} {w : W} (e1 : h[n]? = some (.ins D fs)) (c : D ∈ Cs) (e2 : fs.lookup f = some w) (q : Q w h) :
    wE ((fun h => match insAt Cs h (.ref n) with
      | some q => (match q.2.2.lookup f with
        | some w => some (.ok w, h)
        | none => none)
      | none => none : M W) h) Q X := by
  simp only [w_insAt e1 c, e2]
  exact q
theorem w_fld {Cs : List Addr} {f : Str} (a : wE (mo e h) (fun x h1 => ∃ (n : Nat) (D : Addr) (fs : List (Str × W)) (w : W), x = .ref n ∧ h1[n]? = some (.ins D fs) ∧ D ∈ Cs ∧ fs.lookup f = some w ∧ Q w h1) X) : wE (mFld Cs f mo e h) Q X :=
  wbE (a.imp fun x h1 ⟨n, D, fs, w, ex, e1, c, e2, q⟩ => by
    subst ex
    exact w_fldAt e1 c e2 q)
theorem x_fld {Cs : List Addr} {f : Str} (a : wE (mv e h) (fun y h1 => wE (mo e h1) (fun x h2 => ∃ (n : Nat) (D : Addr) (fs : List (Str × W)), x = .ref n ∧ h2[n]? = some (.ins D fs) ∧ D ∈ Cs ∧ fs.length < 1000 ∧ N e (h2.set n (.ins D (putW f y fs)))) X) X) : wS (sFldM Cs f mo mv e h) N T X B C :=
  x_eS (a.imp fun y h1 a => x_eS (a.imp fun x h2 ⟨n, D, fs, ex, e1, c, l, q⟩ => by
    subst ex
    simp only [w_insAt e1 c]
    rw [if_pos l]; exact q))
theorem w_make {D : Addr} {n m : Nat} {F : List W → M W} {sel : List Nat} {dws : List W} (a : wE (ml e h) (fun ws h1 => wE (mk e h1) (fun zs h2 => (ws.length = n ∧ zs.length = m) ∧ wE (F (pick sel (.ref h2.length :: (ws ++ zs ++ dws))) (h2 ++ [.ins D []])) (fun w h3 => w = .non ∧ Q (.ref h2.length) h3) X) X) X) : wE (mMake D n m F sel dws ml mk e h) Q X :=
  wbE (a.imp fun ws h1 a => wbE (a.imp fun zs h2 ⟨c, q⟩ => by
    rw [if_pos c]
    unfold makeM
    cases hF : F (pick sel (.ref h2.length :: (ws ++ zs ++ dws))) (h2 ++ [.ins D []]) with
    | none => rw [hF] at q; exact q.elim
    | some z =>
      obtain ⟨r, h3⟩ := z
      rw [hF] at q
      cases r with
      | error x => exact q
      | ok w =>
        obtain ⟨ew, q2⟩ := (show w = .non ∧ Q (.ref h2.length) h3 from q)
        subst ew; exact q2))
theorem mdk_of {n : Nat} {kvs : List (Key × W)} (e1 : h[n]? = some (.dk kvs)) : mdk h (.ref n) = some (n, kvs) := by
  show (dkAt h n).map (fun ws => (n, ws)) = _
  unfold dkAt; rw [e1]; rfl
theorem w_dget {n : Nat} {kvs : List (Key × W)} {y w : W} {k : Key} (e1 : h[n]? = some (.dk kvs)) (e2 : keyW y = some k) (e3 : valW kvs k = some w) (q : Q w h) : wE (dgetM (.ref n) y h) Q X := by
  unfold dgetM
  simp only [mdk_of e1, e2, e3]
  exact q
theorem w_kd {d : Addr} {kvs : List (Str × Int)} {k : Str} {i : Int} (e2 : kvs.lookup k = some i) (q : Q (.int i) h) : wE (kdM d kvs (.gl d) (.str k) h) Q X := by
  unfold kdM
  simp only [asS, e2, if_true]
  exact q
theorem w_keys {kvs : List (Str × Int)} (q : QS ⟨fun _ => True, kvs.map fun p => .str p.1⟩ h) : wE (mKeys kvs e h) QS X := q
theorem w_zip (a : wE (ml e h) (fun ws h1 => ∃ x y xs ys, ws = [x, y] ∧ seqL h1 x = some xs ∧ seqL h1 y = some ys ∧ QS ⟨fun h' => seqL h' x = some xs ∧ seqL h' y = some ys, pairW xs ys⟩ h1) X) : wE (mZip ml e h) QS X :=
  wbE (a.imp fun ws h1 ⟨x, y, xs, ys, ew, e1, e2, q⟩ => by
    subst ew
    unfold zipM
    simp only [e1, e2]
    exact q)
theorem w_isiG {isi : Value → Value → Option Bool} {w c : W} {t u : Value} {b : Bool} (e1 : tyW h w = some t) (e2 : clsW c = some u) (e3 : isi t u = some b) (q : Q (.bl b) h) : wE (isiM isi [w, c] h) Q X := by
  unfold isiM two
  simp only [e1, e2, e3]
  exact q
theorem tyW_ins {n : Nat} {D : Addr} {fs : List (Str × W)} (e1 : h[n]? = some (.ins D fs)) : tyW h (.ref n) = some (.ref D) := by
  unfold tyW; simp only [e1]
theorem tyW_lst {n : Nat} {ws : List W} (e1 : h[n]? = some (.lst ws)) : tyW h (.ref n) = some (.type "list") := by
  unfold tyW; simp only [e1]
theorem tyW_dk {n : Nat} {ws : List (Key × W)} (e1 : h[n]? = some (.dk ws)) : tyW h (.ref n) = some (.type "dict") := by
  unfold tyW; simp only [e1]
/-- the pairs of a display -/
theorem w_prsN {Q : List (Key × W) → Hv → Prop} (q : Q [] h) : wE (mPrs [] e h) Q X := q
theorem w_prsC {mk mv : ME W} {r : List (ME W × ME W)} {Q : List (Key × W) → Hv → Prop} (a : wE (mk e h) (fun x h1 => wE (mv e h1) (fun y h2 => wE (mPrs r e h2) (fun ps h3 => ∃ k, keyW x = some k ∧ Q ((k, y) :: ps) h3) X) X) X) : wE (mPrs ((mk, mv) :: r) e h) Q X :=
  wbE (a.imp fun x h1 a => wbE (a.imp fun y h2 a => wbE (a.imp fun ps h3 ⟨k, ek, q⟩ => by
    simp only [ek]
    exact q)))
theorem w_dsp {ms : List (ME W × ME W)} (a : wE (mPrs ms e (h ++ [.dk []])) (fun l h1 => h1[h.length]? = some (.dk []) ∧ l.length ≤ 15 ∧ Q (.ref h.length) (h1.set h.length (.dk (mergeW [] l)))) X) : wE (mDsp ms e h) Q X := by
  unfold mDsp
  cases hm : mPrs ms e (h ++ [.dk []]) with
  | none => rw [hm] at a; exact a.elim
  | some z =>
    obtain ⟨r, h1⟩ := z
    rw [hm] at a
    cases r with
    | error x => exact a
    | ok l =>
      obtain ⟨e1, l15, q⟩ := (show h1[h.length]? = some (.dk []) ∧ l.length ≤ 15 ∧ Q (.ref h.length) (h1.set h.length (.dk (mergeW [] l))) from a)
      have e2 : dkAt h1 h.length = some [] := by unfold dkAt; rw [e1]
      simp only [e2]
      rw [if_pos l15]; exact q
theorem x_kdin {k0 : Bool → Bool} {n : Nat} {kvs : List (Key × W)} {y : W} {k : Key} (e1 : h[n]? = some (.dk kvs)) (e2 : keyW y = some k) (q : Q (.bl (k0 (valW kvs k).isSome)) h) : wE (dinM k0 y (.ref n) h) Q X := by
  unfold dinM
  simp only [mdk_of e1, e2]
  exact q
theorem setD_ok {n : Nat} {kvs : List (Key × W)} {y z : W} {k : Key} {P : Hv → Prop} (e1 : h[n]? = some (.dk kvs)) (e2 : keyW y = some k) (c : kvs.length < sizeLine) (q : P (h.set n (.dk (putKW kvs k z)))) : ∃ h3, setDM (.ref n) y z h = some h3 ∧ P h3 := by
  refine ⟨_, ?_, q⟩
  unfold setDM
  simp only [mdk_of e1, e2]
  rw [if_pos c]
theorem w_int_b {b : Bool} (q : Q (.int (if b then 1 else 0)) h) : wE (intM [.bl b] h) Q X := q
theorem w_int_i {i : Int} (q : Q (.int i) h) : wE (intM [.int i] h) Q X := q
theorem w_listL {w : W} {ws : List W} (e1 : seqLT h w = some ws) (q : Q (.ref h.length) (h ++ [.lst ws])) : wE (listM [w] h) Q X := by
  cases w with
  | tup l => cases e1; exact q
  | cl l => cases e1; exact q
  | ref n => unfold listM one listLM; simp only [e1]; exact q
  | _ => cases e1
/-! ### by blocks -/
theorem w_lstR (a : wE (ml e h) (fun ws h1 => ws.length ≤ sizeLine ∧ ∃ bs, Rp bs h1 ∧ ∀ r h', Rp ([(r, .lst ws)] :: bs) h' → Q (.ref r) h') X) : wE (mLst ml e h) Q X :=
  w_lst (a.imp fun ws h1 ⟨c, bs, H, q⟩ => ⟨c, q _ _ H.new⟩)
theorem w_dspR {ms : List (ME W × ME W)} (a : ∃ bs, Rp bs h ∧ ∀ r h', Rp ([(r, .dk [])] :: bs) h' → wE (mPrs ms e h') (fun l h1 => ∃ bs1, Rp ([(r, .dk [])] :: bs1) h1 ∧ l.length ≤ 15 ∧ ∃ l', mergeW [] l = l' ∧ ∀ h2, Rp ([(r, .dk l')] :: bs1) h2 → Q (.ref r) h2) X) : wE (mDsp ms e h) Q X := by
  obtain ⟨bs, H, q⟩ := a
  refine w_dsp ((q _ _ H.new).imp fun l h1 ⟨bs1, H1, c, l', el, q⟩ => ⟨H1.at 0 rfl, c, el ▸ q _ H1.set0⟩)
theorem w_makeR {D : Addr} {n m : Nat} {F : List W → M W} {sel : List Nat} {dws : List W} (a : wE (ml e h) (fun ws h1 => wE (mk e h1) (fun zs h2 => (ws.length = n ∧ zs.length = m) ∧ ∃ bs, Rp bs h2 ∧ ∀ r h', Rp ([(r, .ins D [])] :: bs) h' → wE (F (pick sel (.ref r :: (ws ++ zs ++ dws))) h') (fun w h3 => w = .non ∧ Q (.ref r) h3) X) X) X) : wE (mMake D n m F sel dws ml mk e h) Q X :=
  w_make (a.imp fun ws h1 a => a.imp fun zs h2 ⟨c, bs, H, q⟩ => ⟨c, q _ _ H.new⟩)
theorem x_fldR {Cs : List Addr} {f : Str} (a : wE (mv e h) (fun y h1 => wE (mo e h1) (fun x h2 => ∃ (bs : List Blk) (i n : Nat) (D : Addr) (fs : List (Str × W)), x = .ref n ∧ Rp bs h2 ∧ bs[i]? = some [(n, .ins D fs)] ∧ D ∈ Cs ∧ fs.length < 1000 ∧ ∃ fs', putW f y fs = fs' ∧ ∀ h3, Rp (bs.set i [(n, .ins D fs')]) h3 → N e h3) X) X) : wS (sFldM Cs f mo mv e h) N T X B C :=
  x_fld (a.imp fun y h1 a => a.imp fun x h2 ⟨bs, i, n, D, fs, ex, H, ei, c, l, fs', ef, q⟩ => ⟨n, D, fs, ex, H.at i ei, c, l, q _ (ef ▸ H.set i ei _)⟩)
theorem w_lcR {msrc : ME Src} {g : W → Ev → Option Ev} {tt : ME Bool} {te : ME W} {vs : List Nat} (a : wE (msrc e h) (fun s h1 => ∃ bs, Rp bs h1 ∧ ∀ r h', Rp ([(r, .lst [])] :: bs) h' → wE (lcL s.ok g tt te r (wipeE e vs) s.ws h') Q X) X) : wE (mLc msrc g tt te vs e h) Q X :=
  w_lc (a.imp fun s h1 ⟨bs, H, q⟩ => q _ _ H.new)
theorem w_lcN {ok : Hv → Prop} {g : W → Ev → Option Ev} {tt : ME Bool} {te : ME W} {D : Nat} (o : ok h) (q : Q (.ref D) h) : wE (lcL ok g tt te D e [] h) Q X := by
  show wE (ifP (ok h) (some (.ok (.ref D), h))) Q X
  rw [ifP_pos o]; exact q
theorem w_lcC {ok : Hv → Prop} {g : W → Ev → Option Ev} {tt : ME Bool} {te : ME W} {D : Nat} {w : W} {r : List W} {e1 : Ev} (o : ok h) (eg : g w e = some e1)
    (b : wE (tt e1 h) (fun b h1 => (b = true → wE (te e1 h1) (fun y h2 => ∃ (bs : List Blk) (i : Nat) (acc : List W), Rp bs h2 ∧ bs[i]? = some [(D, .lst acc)] ∧ acc.length < sizeLine ∧ ∀ h3, Rp (bs.set i [(D, .lst (acc ++ [y]))]) h3 → wE (lcL ok g tt te D e r h3) Q X) nX) ∧ (b = false → wE (lcL ok g tt te D e r h1) Q X)) nX) : wE (lcL ok g tt te D e (w :: r) h) Q X := by
  unfold lcL
  rw [ifP_pos o]
  simp only [eg]
  match htt : tt e1 h, b with
  | some (.error x, h1), b => exact b.elim
  | some (.ok false, h1), b => exact b.2 rfl
  | some (.ok true, h1), b =>
    have b := b.1 rfl
    simp only
    match hte : te e1 h1, b with
    | some (.error x, h2), b => exact b.elim
    | some (.ok y, h2), b =>
      obtain ⟨bs, i, acc, H, ei, c, q⟩ := b
      simp only [lstAt_of (H.at i ei)]
      rw [if_pos c]
      exact q _ (H.set i ei _)
theorem x_forU {msrc : ME Src} {g : W → MS} {mb : MS} (a : wE (msrc e h) (fun s h1 => wS (loopL s.ok g mb s.ws e h1) N T X B C) X) : wS (sFor msrc g mb e h) N T X B C := x_eS a
theorem x_lpN {ok : Hv → Prop} {g : W → MS} {mb : MS} (o : ok h) (q : N e h) : wS (loopL ok g mb [] e h) N T X B C := by
  unfold loopL
  exact ifP_wS o q
theorem x_lpC {ok : Hv → Prop} {g : W → MS} {mb : MS} {w : W} {r : List W} (o : ok h) (b : wS (g w e h) (fun e1 h1 => wS (mb e1 h1) (fun e2 h2 => wS (loopL ok g mb r e2 h2) N T X B C) T X N (fun e2 h2 => wS (loopL ok g mb r e2 h2) N T X B C)) nT nX nE nE) : wS (loopL ok g mb (w :: r) e h) N T X B C := by
  unfold loopL
  refine ifP_wS o ?_
  match hg : g w e h, b with
  | some (.ok .nx, e1, h1), b =>
    have b : wS (mb e1 h1) (fun e2 h2 => wS (loopL ok g mb r e2 h2) N T X B C) T X N (fun e2 h2 => wS (loopL ok g mb r e2 h2) N T X B C) := b
    show wS (match mb e1 h1 with
      | some (.ok .nx, e2, h2) => loopL ok g mb r e2 h2
      | some (.ok .ct, e2, h2) => loopL ok g mb r e2 h2
      | some (.ok .bk, e2, h2) => some (.ok .nx, e2, h2)
      | q => q) N T X B C
    match hm : mb e1 h1, b with
    | some (.ok .nx, e2, h2), b => exact b
    | some (.ok .ct, e2, h2), b => exact b
    | some (.ok .bk, e2, h2), b => exact b
    | some (.ok (.rt z), e2, h2), b => exact b
    | some (.error x, e2, h2), b => exact b
theorem w_catLR {a b : Nat} {xs ys : List W} {bs : List Blk} (e1 : h[a]? = some (.lst xs)) (e2 : h[b]? = some (.lst ys)) (c : Nat.ble (xs.length + ys.length) 64 = true) {zs : List W} (e3 : xs ++ ys = zs) (H : Rp bs h) (q : ∀ r h', Rp ([(r, .lst zs)] :: bs) h' → Q (.ref r) h') : wE (addM (.ref a) (.ref b) h) Q X := w_catL e1 e2 (Nat.le_trans (Nat.le_of_ble_eq_true c) (by decide)) (q _ _ (e3 ▸ H.new))
theorem w_slLR {n : Nat} {ws : List W} {l u : Option Int} {bs : List Blk} (e1 : h[n]? = some (.lst ws)) {zs : List W} (ec : cutW ws l u = zs) (H : Rp bs h) (q : ∀ r h', Rp ([(r, .lst zs)] :: bs) h' → Q (.ref r) h') : wE (slM (.ref n) l u h) Q X := by
  unfold slM
  simp only [seqL_of e1]
  rw [ec]
  exact q _ _ H.new
theorem w_slT {ws : List W} {l u : Option Int} (q : Q (.tup (cutW ws l u)) h) : wE (slM (.tup ws) l u h) Q X := q
theorem w_listLR {w : W} {ws : List W} {bs : List Blk} (e1 : seqLT h w = some ws) (H : Rp bs h) (q : ∀ r h', Rp ([(r, .lst ws)] :: bs) h' → Q (.ref r) h') : wE (listM [w] h) Q X := w_listL e1 (q _ _ H.new)
theorem setR_ok {bs : List Blk} {n j : Nat} {k : Int} {ws : List W} {z : W} {P : Hv → Prop} (H : Rp bs h) (i : Nat) (e1 : bs[i]? = some [(n, .lst ws)]) (e2 : ixN ws.length k = some j) {ws' : List W} {bs' : List Blk} (e3 : ws.set j z = ws') (e4 : bs.set i [(n, .lst ws')] = bs') (q : ∀ h', Rp bs' h' → P h') : ∃ h3, setLM (.ref n) (.int k) z h = some h3 ∧ P h3 :=
  set_ok (H.at i e1) e2 (q _ (by rw [e3]; exact e4 ▸ H.set i e1 _))
theorem w_appendR {bs : List Blk} {n : Nat} {ws : List W} {w : W} (H : Rp bs h) (i : Nat) (e1 : bs[i]? = some [(n, .lst ws)]) (c : Nat.ble ws.length 64 = true) {ws' : List W} {bs' : List Blk} (e3 : ws ++ [w] = ws') (e4 : bs.set i [(n, .lst ws')] = bs') (q : ∀ h', Rp bs' h' → Q .non h') : wE (appendM (.ref n) [w] h) Q X := w_append (H.at i e1) (Nat.lt_of_le_of_lt (Nat.le_of_ble_eq_true c) (by decide)) (q _ (by rw [e3]; exact e4 ▸ H.set i e1 _))
theorem w_mbL {g : W → List W → M W} {mo : ME W} {me : ME (List W)} (a : wE (mo e h) (fun x h1 => ∃ n l, x = .ref n ∧ h1[n]? = some (.lst l) ∧ wE (me e h1) (fun ws h2 => wE (g x ws h2) Q X) X) X) : wE (mMb .lst g mo me e h) Q X :=
  w_mb (a.imp fun x h1 ⟨n, l, ex, hl, q⟩ => by
    subst ex
    refine ⟨?_, q⟩
    show (seqL h1 (.ref n)).isSome = true
    rw [seqL_of hl]; rfl)
theorem w_B {b : Bool} (q : QB b h) : wE (mB b e h) QB X := q
theorem lt_sz {n : Nat} (h : Nat.ble n 64 = true) : n < sizeLine := Nat.lt_of_le_of_lt (Nat.le_of_ble_eq_true h) (by decide)
theorem lt_k {n : Nat} (h : Nat.ble n 64 = true) : n < 1000 := Nat.lt_of_le_of_lt (Nat.le_of_ble_eq_true h) (by decide)
/-! ### what a wish asks next, given -/
theorem fld_go {Cs : List Addr} {f : Str} {n : Nat} {D : Addr} {fs : List (Str × W)} {w : W} {P : W → Prop} (e1 : h[n]? = some (.ins D fs)) (c : D ∈ Cs) (e2 : fs.lookup f = some w) (q : P w) :
    ∃ (n' : Nat) (D' : Addr) (fs' : List (Str × W)) (w' : W), W.ref n = .ref n' ∧ h[n']? = some (.ins D' fs') ∧ D' ∈ Cs ∧ fs'.lookup f = some w' ∧ P w' := ⟨n, D, fs, w, rfl, e1, c, e2, q⟩
theorem xfld_go {Cs : List Addr} {f : Str} {y : W} {bs : List Blk} {n : Nat} {D : Addr} {fs fs' : List (Str × W)} {P : Hv → Prop} (i : Nat) (H : Rp bs h) (e1 : bs[i]? = some [(n, .ins D fs)]) (c : D ∈ Cs) (l : Nat.ble fs.length 64 = true) (ef : putW f y fs = fs') {bs2 : List Blk} (e4 : bs.set i [(n, .ins D fs')] = bs2) (q : ∀ h3, Rp bs2 h3 → P h3) :
    ∃ (bs' : List Blk) (i' n' : Nat) (D' : Addr) (gs : List (Str × W)), W.ref n = .ref n' ∧ Rp bs' h ∧ bs'[i']? = some [(n', .ins D' gs)] ∧ D' ∈ Cs ∧ gs.length < 1000 ∧ ∃ gs', putW f y gs = gs' ∧ ∀ h3, Rp (bs'.set i' [(n', .ins D' gs')]) h3 → P h3 := ⟨bs, i, n, D, fs, rfl, H, e1, c, lt_k l, fs', ef, fun h3 R => q h3 (e4 ▸ R)⟩
theorem lst_go {bs : List Blk} {ws : List W} {P : Nat → Hv → Prop} (c : Nat.ble ws.length 64 = true) (H : Rp bs h) (q : ∀ r h', Rp ([(r, .lst ws)] :: bs) h' → P r h') : ws.length ≤ sizeLine ∧ ∃ bs, Rp bs h ∧ ∀ r h', Rp ([(r, .lst ws)] :: bs) h' → P r h' := ⟨le_sz c, bs, H, q⟩
theorem tup_go {ws : List W} {P : Prop} (c : Nat.ble ws.length 64 = true) (q : P) : ws.length ≤ sizeLine ∧ P := ⟨le_sz c, q⟩
theorem make_go' {bs : List Blk} {D : Addr} {n m : Nat} {ws zs : List W} {P : Nat → Hv → Prop} (c1 : ws.length = n) (c2 : zs.length = m) (H : Rp bs h) (q : ∀ r h', Rp ([(r, .ins D [])] :: bs) h' → P r h') : (ws.length = n ∧ zs.length = m) ∧ ∃ bs, Rp bs h ∧ ∀ r h', Rp ([(r, .ins D [])] :: bs) h' → P r h' := ⟨⟨c1, c2⟩, bs, H, q⟩
theorem kwd_go {n m : Nat} {ws zs : List W} {P : Prop} (c1 : ws.length = n) (c2 : zs.length = m) (q : P) : (ws.length = n ∧ zs.length = m) ∧ P := ⟨⟨c1, c2⟩, q⟩
theorem len_go {n : Nat} {ws : List W} {P : Prop} (c1 : ws.length = n) (q : P) : ws.length = n ∧ P := ⟨c1, q⟩
theorem mb_go {n : Nat} {l : List W} {P : Nat → Prop} (e : h[n]? = some (.lst l)) (q : P n) : ∃ n' l', W.ref n = .ref n' ∧ h[n']? = some (.lst l') ∧ P n' := ⟨n, l, rfl, e, q⟩
theorem dsp_go {bs1 : List Blk} {r : Nat} {l l' : List (Key × W)} {P : Hv → Prop} (H : Rp ([(r, .dk [])] :: bs1) h) (c : Nat.ble l.length 15 = true) (e : mergeW [] l = l') (q : ∀ h2, Rp ([(r, .dk l')] :: bs1) h2 → P h2) : ∃ bs1, Rp ([(r, .dk [])] :: bs1) h ∧ l.length ≤ 15 ∧ ∃ l', mergeW [] l = l' ∧ ∀ h2, Rp ([(r, .dk l')] :: bs1) h2 → P h2 := ⟨bs1, H, Nat.le_of_ble_eq_true c, l', e, q⟩
theorem lcc_go {bs : List Blk} {D : Nat} {acc : List W} {y : W} {P : Hv → Prop} (i : Nat) (H : Rp bs h) (e : bs[i]? = some [(D, .lst acc)]) (c : Nat.ble acc.length 64 = true) {acc' : List W} {bs' : List Blk} (e3 : acc ++ [y] = acc') (e4 : bs.set i [(D, .lst acc')] = bs') (q : ∀ h3, Rp bs' h3 → P h3) : ∃ (bs : List Blk) (i : Nat) (acc : List W), Rp bs h ∧ bs[i]? = some [(D, .lst acc)] ∧ acc.length < sizeLine ∧ ∀ h3, Rp (bs.set i [(D, .lst (acc ++ [y]))]) h3 → P h3 := ⟨bs, i, acc, H, e, lt_sz c, fun h3 R => q h3 (by rw [e3, e4] at R; exact R)⟩
theorem new_go {bs : List Blk} {o : AO} {P : Nat → Hv → Prop} (H : Rp bs h) (q : ∀ r h', Rp ([(r, o)] :: bs) h' → P r h') : ∃ bs, Rp bs h ∧ ∀ r h', Rp ([(r, o)] :: bs) h' → P r h' := ⟨bs, H, q⟩
theorem key_go {x : W} {k : Key} {P : Key → Prop} (e : keyW x = some k) (q : P k) : ∃ k, keyW x = some k ∧ P k := ⟨k, e, q⟩
theorem ix0 {α : Type} {a0 : α} {l : List α} : atI (a0 :: l) (0 : Int) = some a0 := atI_n (i := 0) rfl
theorem iy0 {α : Type} {a0 : α} {l : List α} : ixN (a0 :: l).length (0 : Int) = some 0 := by unfold ixN; simp only [List.length_cons]; rw [if_pos (by omega), if_pos (by omega)]; rfl
theorem se0 {α : Type} {a0 z : α} {l : List α} : (a0 :: l).set 0 z = z :: l := rfl
theorem ap0 {α : Type} {z : α} : [] ++ [z] = [z] := rfl
theorem ix1 {α : Type} {a0 a1 : α} {l : List α} : atI (a0 :: a1 :: l) (1 : Int) = some a1 := atI_n (i := 1) rfl
theorem iy1 {α : Type} {a0 a1 : α} {l : List α} : ixN (a0 :: a1 :: l).length (1 : Int) = some 1 := by unfold ixN; simp only [List.length_cons]; rw [if_pos (by omega), if_pos (by omega)]; rfl
theorem se1 {α : Type} {a0 a1 z : α} {l : List α} : (a0 :: a1 :: l).set 1 z = a0 :: z :: l := rfl
theorem ap1 {α : Type} {a0 z : α} : [a0] ++ [z] = [a0, z] := rfl
theorem ix2 {α : Type} {a0 a1 a2 : α} {l : List α} : atI (a0 :: a1 :: a2 :: l) (2 : Int) = some a2 := atI_n (i := 2) rfl
theorem iy2 {α : Type} {a0 a1 a2 : α} {l : List α} : ixN (a0 :: a1 :: a2 :: l).length (2 : Int) = some 2 := by unfold ixN; simp only [List.length_cons]; rw [if_pos (by omega), if_pos (by omega)]; rfl
theorem se2 {α : Type} {a0 a1 a2 z : α} {l : List α} : (a0 :: a1 :: a2 :: l).set 2 z = a0 :: a1 :: z :: l := rfl
theorem ap2 {α : Type} {a0 a1 z : α} : [a0, a1] ++ [z] = [a0, a1, z] := rfl
theorem ix3 {α : Type} {a0 a1 a2 a3 : α} {l : List α} : atI (a0 :: a1 :: a2 :: a3 :: l) (3 : Int) = some a3 := atI_n (i := 3) rfl
theorem iy3 {α : Type} {a0 a1 a2 a3 : α} {l : List α} : ixN (a0 :: a1 :: a2 :: a3 :: l).length (3 : Int) = some 3 := by unfold ixN; simp only [List.length_cons]; rw [if_pos (by omega), if_pos (by omega)]; rfl
theorem se3 {α : Type} {a0 a1 a2 a3 z : α} {l : List α} : (a0 :: a1 :: a2 :: a3 :: l).set 3 z = a0 :: a1 :: a2 :: z :: l := rfl
theorem ap3 {α : Type} {a0 a1 a2 z : α} : [a0, a1, a2] ++ [z] = [a0, a1, a2, z] := rfl
theorem ix4 {α : Type} {a0 a1 a2 a3 a4 : α} {l : List α} : atI (a0 :: a1 :: a2 :: a3 :: a4 :: l) (4 : Int) = some a4 := atI_n (i := 4) rfl
theorem iy4 {α : Type} {a0 a1 a2 a3 a4 : α} {l : List α} : ixN (a0 :: a1 :: a2 :: a3 :: a4 :: l).length (4 : Int) = some 4 := by unfold ixN; simp only [List.length_cons]; rw [if_pos (by omega), if_pos (by omega)]; rfl
theorem se4 {α : Type} {a0 a1 a2 a3 a4 z : α} {l : List α} : (a0 :: a1 :: a2 :: a3 :: a4 :: l).set 4 z = a0 :: a1 :: a2 :: a3 :: z :: l := rfl
theorem ap4 {α : Type} {a0 a1 a2 a3 z : α} : [a0, a1, a2, a3] ++ [z] = [a0, a1, a2, a3, z] := rfl
theorem ix5 {α : Type} {a0 a1 a2 a3 a4 a5 : α} {l : List α} : atI (a0 :: a1 :: a2 :: a3 :: a4 :: a5 :: l) (5 : Int) = some a5 := atI_n (i := 5) rfl
theorem iy5 {α : Type} {a0 a1 a2 a3 a4 a5 : α} {l : List α} : ixN (a0 :: a1 :: a2 :: a3 :: a4 :: a5 :: l).length (5 : Int) = some 5 := by unfold ixN; simp only [List.length_cons]; rw [if_pos (by omega), if_pos (by omega)]; rfl
theorem se5 {α : Type} {a0 a1 a2 a3 a4 a5 z : α} {l : List α} : (a0 :: a1 :: a2 :: a3 :: a4 :: a5 :: l).set 5 z = a0 :: a1 :: a2 :: a3 :: a4 :: z :: l := rfl
theorem ap5 {α : Type} {a0 a1 a2 a3 a4 z : α} : [a0, a1, a2, a3, a4] ++ [z] = [a0, a1, a2, a3, a4, z] := rfl
theorem ix6 {α : Type} {a0 a1 a2 a3 a4 a5 a6 : α} {l : List α} : atI (a0 :: a1 :: a2 :: a3 :: a4 :: a5 :: a6 :: l) (6 : Int) = some a6 := atI_n (i := 6) rfl
theorem iy6 {α : Type} {a0 a1 a2 a3 a4 a5 a6 : α} {l : List α} : ixN (a0 :: a1 :: a2 :: a3 :: a4 :: a5 :: a6 :: l).length (6 : Int) = some 6 := by unfold ixN; simp only [List.length_cons]; rw [if_pos (by omega), if_pos (by omega)]; rfl
theorem se6 {α : Type} {a0 a1 a2 a3 a4 a5 a6 z : α} {l : List α} : (a0 :: a1 :: a2 :: a3 :: a4 :: a5 :: a6 :: l).set 6 z = a0 :: a1 :: a2 :: a3 :: a4 :: a5 :: z :: l := rfl
theorem ap6 {α : Type} {a0 a1 a2 a3 a4 a5 z : α} : [a0, a1, a2, a3, a4, a5] ++ [z] = [a0, a1, a2, a3, a4, a5, z] := rfl
theorem ix7 {α : Type} {a0 a1 a2 a3 a4 a5 a6 a7 : α} {l : List α} : atI (a0 :: a1 :: a2 :: a3 :: a4 :: a5 :: a6 :: a7 :: l) (7 : Int) = some a7 := atI_n (i := 7) rfl
theorem iy7 {α : Type} {a0 a1 a2 a3 a4 a5 a6 a7 : α} {l : List α} : ixN (a0 :: a1 :: a2 :: a3 :: a4 :: a5 :: a6 :: a7 :: l).length (7 : Int) = some 7 := by unfold ixN; simp only [List.length_cons]; rw [if_pos (by omega), if_pos (by omega)]; rfl
theorem se7 {α : Type} {a0 a1 a2 a3 a4 a5 a6 a7 z : α} {l : List α} : (a0 :: a1 :: a2 :: a3 :: a4 :: a5 :: a6 :: a7 :: l).set 7 z = a0 :: a1 :: a2 :: a3 :: a4 :: a5 :: a6 :: z :: l := rfl
theorem ap7 {α : Type} {a0 a1 a2 a3 a4 a5 a6 z : α} : [a0, a1, a2, a3, a4, a5, a6] ++ [z] = [a0, a1, a2, a3, a4, a5, a6, z] := rfl
theorem ix8 {α : Type} {a0 a1 a2 a3 a4 a5 a6 a7 a8 : α} {l : List α} : atI (a0 :: a1 :: a2 :: a3 :: a4 :: a5 :: a6 :: a7 :: a8 :: l) (8 : Int) = some a8 := atI_n (i := 8) rfl
theorem iy8 {α : Type} {a0 a1 a2 a3 a4 a5 a6 a7 a8 : α} {l : List α} : ixN (a0 :: a1 :: a2 :: a3 :: a4 :: a5 :: a6 :: a7 :: a8 :: l).length (8 : Int) = some 8 := by unfold ixN; simp only [List.length_cons]; rw [if_pos (by omega), if_pos (by omega)]; rfl
theorem se8 {α : Type} {a0 a1 a2 a3 a4 a5 a6 a7 a8 z : α} {l : List α} : (a0 :: a1 :: a2 :: a3 :: a4 :: a5 :: a6 :: a7 :: a8 :: l).set 8 z = a0 :: a1 :: a2 :: a3 :: a4 :: a5 :: a6 :: a7 :: z :: l := rfl
theorem ap8 {α : Type} {a0 a1 a2 a3 a4 a5 a6 a7 z : α} : [a0, a1, a2, a3, a4, a5, a6, a7] ++ [z] = [a0, a1, a2, a3, a4, a5, a6, a7, z] := rfl
theorem ix9 {α : Type} {a0 a1 a2 a3 a4 a5 a6 a7 a8 a9 : α} {l : List α} : atI (a0 :: a1 :: a2 :: a3 :: a4 :: a5 :: a6 :: a7 :: a8 :: a9 :: l) (9 : Int) = some a9 := atI_n (i := 9) rfl
theorem iy9 {α : Type} {a0 a1 a2 a3 a4 a5 a6 a7 a8 a9 : α} {l : List α} : ixN (a0 :: a1 :: a2 :: a3 :: a4 :: a5 :: a6 :: a7 :: a8 :: a9 :: l).length (9 : Int) = some 9 := by unfold ixN; simp only [List.length_cons]; rw [if_pos (by omega), if_pos (by omega)]; rfl
theorem se9 {α : Type} {a0 a1 a2 a3 a4 a5 a6 a7 a8 a9 z : α} {l : List α} : (a0 :: a1 :: a2 :: a3 :: a4 :: a5 :: a6 :: a7 :: a8 :: a9 :: l).set 9 z = a0 :: a1 :: a2 :: a3 :: a4 :: a5 :: a6 :: a7 :: a8 :: z :: l := rfl
theorem ap9 {α : Type} {a0 a1 a2 a3 a4 a5 a6 a7 a8 z : α} : [a0, a1, a2, a3, a4, a5, a6, a7, a8] ++ [z] = [a0, a1, a2, a3, a4, a5, a6, a7, a8, z] := rfl
theorem ix10 {α : Type} {a0 a1 a2 a3 a4 a5 a6 a7 a8 a9 a10 : α} {l : List α} : atI (a0 :: a1 :: a2 :: a3 :: a4 :: a5 :: a6 :: a7 :: a8 :: a9 :: a10 :: l) (10 : Int) = some a10 := atI_n (i := 10) rfl
theorem iy10 {α : Type} {a0 a1 a2 a3 a4 a5 a6 a7 a8 a9 a10 : α} {l : List α} : ixN (a0 :: a1 :: a2 :: a3 :: a4 :: a5 :: a6 :: a7 :: a8 :: a9 :: a10 :: l).length (10 : Int) = some 10 := by unfold ixN; simp only [List.length_cons]; rw [if_pos (by omega), if_pos (by omega)]; rfl
theorem se10 {α : Type} {a0 a1 a2 a3 a4 a5 a6 a7 a8 a9 a10 z : α} {l : List α} : (a0 :: a1 :: a2 :: a3 :: a4 :: a5 :: a6 :: a7 :: a8 :: a9 :: a10 :: l).set 10 z = a0 :: a1 :: a2 :: a3 :: a4 :: a5 :: a6 :: a7 :: a8 :: a9 :: z :: l := rfl
theorem ap10 {α : Type} {a0 a1 a2 a3 a4 a5 a6 a7 a8 a9 z : α} : [a0, a1, a2, a3, a4, a5, a6, a7, a8, a9] ++ [z] = [a0, a1, a2, a3, a4, a5, a6, a7, a8, a9, z] := rfl
theorem ix11 {α : Type} {a0 a1 a2 a3 a4 a5 a6 a7 a8 a9 a10 a11 : α} {l : List α} : atI (a0 :: a1 :: a2 :: a3 :: a4 :: a5 :: a6 :: a7 :: a8 :: a9 :: a10 :: a11 :: l) (11 : Int) = some a11 := atI_n (i := 11) rfl
theorem iy11 {α : Type} {a0 a1 a2 a3 a4 a5 a6 a7 a8 a9 a10 a11 : α} {l : List α} : ixN (a0 :: a1 :: a2 :: a3 :: a4 :: a5 :: a6 :: a7 :: a8 :: a9 :: a10 :: a11 :: l).length (11 : Int) = some 11 := by unfold ixN; simp only [List.length_cons]; rw [if_pos (by omega), if_pos (by omega)]; rfl
theorem se11 {α : Type} {a0 a1 a2 a3 a4 a5 a6 a7 a8 a9 a10 a11 z : α} {l : List α} : (a0 :: a1 :: a2 :: a3 :: a4 :: a5 :: a6 :: a7 :: a8 :: a9 :: a10 :: a11 :: l).set 11 z = a0 :: a1 :: a2 :: a3 :: a4 :: a5 :: a6 :: a7 :: a8 :: a9 :: a10 :: z :: l := rfl
theorem ap11 {α : Type} {a0 a1 a2 a3 a4 a5 a6 a7 a8 a9 a10 z : α} : [a0, a1, a2, a3, a4, a5, a6, a7, a8, a9, a10] ++ [z] = [a0, a1, a2, a3, a4, a5, a6, a7, a8, a9, a10, z] := rfl
theorem cat_cons {α : Type} {a : α} {l m k : List α} (h : l ++ m = k) : (a :: l) ++ m = a :: k := by rw [List.cons_append, h]
theorem w_mulP {i j : Int} (c : -1000000000000000 ≤ j) (c2 : j ≤ 1000000000000000) (q : Q (.int (i * j)) h) : wE (mulM (.int i) (.int j) h) Q X := w_mulR (Int.lt_of_lt_of_le (by decide) c) (Int.lt_of_le_of_lt c2 (by decide)) q
theorem w_mulQ {i j : Int} (c : -1000000000000000 ≤ i) (c2 : i ≤ 1000000000000000) (q : Q (.int (i * j)) h) : wE (mulM (.int i) (.int j) h) Q X := w_mulL (Int.lt_of_lt_of_le (by decide) c) (Int.lt_of_le_of_lt c2 (by decide)) q
theorem w_powP {i j : Int} (c : 0 ≤ j) (c1 : j ≤ 1000000) (c2 : -1000000000000000 ≤ i) (c3 : i ≤ 1000000000000000) (q : Q (.int (i ^ j.toNat)) h) : wE (powM (.int i) (.int j) h) Q X := w_pow' c c1 (Nat.lt_of_le_of_lt (show i.natAbs ≤ 1000000000000000 by omega) (by decide)) q
theorem w_allL {n : Nat} {ws : List W} {bs : List Bool} (e1 : h[n]? = some (.lst ws)) (e2 : asBs ws = some bs) (q : Q (.bl (bs.all id)) h) : wE (allM [.ref n] h) Q X := by
  unfold allM boolsM one
  simp only [seqL_of e1, e2]
  exact q
theorem w_anyL {n : Nat} {ws : List W} {bs : List Bool} (e1 : h[n]? = some (.lst ws)) (e2 : asBs ws = some bs) (q : Q (.bl (bs.any id)) h) : wE (anyM [.ref n] h) Q X := by
  unfold anyM boolsM one
  simp only [seqL_of e1, e2]
  exact q
theorem w_chainLL {ma mb mc : ME W} (a : wE (ma e h) (fun x h1 => wE (mb e h1) (fun y h2 => wE (mc e h2) (fun z h3 => ∃ i j k : Int, x = .int i ∧ y = .int j ∧ z = .int k ∧ h3 = h2 ∧ Q (.bl (decide (i ≤ j) && decide (j ≤ k))) h2) nX) X) X) : wE (mChain leM leM ma mb mc e h) Q X :=
  w_chain (a.imp fun x h1 a => a.imp fun y h2 a => by
    obtain ⟨z, h3, ez, i, j, k, rfl, rfl, rfl, rfl, q⟩ := wE_some a
    refine w_le ⟨_, rfl, fun c => ?_, fun c => ?_⟩
    · refine wE_of ez (w_le ?_)
      rw [c, Bool.true_and] at q; exact q
    · rw [c, Bool.false_and] at q; exact q)
theorem w_andVP {ma mb : ME W} (a : wE (ma e h) (fun w h1 => ∃ b, w = .bl b ∧ ∃ b2, (b = true → wE (mb e h1) (fun w2 h2 => w2 = .bl b2 ∧ h2 = h1) nX) ∧ Q (.bl (b && b2)) h1) X) : wE (mAndV ma mb e h) Q X :=
  w_andV (a.imp fun w h1 ⟨b, ew, b2, t, q⟩ => ⟨b, ew, fun c => by
    obtain ⟨z, h3, ez, rfl, rfl⟩ := wE_some (t c)
    refine wE_of ez ?_
    rw [c, Bool.true_and] at q; exact q, fun c => by rw [c, Bool.false_and] at q; exact q⟩)
theorem w_orVP {ma mb : ME W} (a : wE (ma e h) (fun w h1 => ∃ b, w = .bl b ∧ ∃ b2, (b = false → wE (mb e h1) (fun w2 h2 => w2 = .bl b2 ∧ h2 = h1) nX) ∧ Q (.bl (b || b2)) h1) X) : wE (mOrV ma mb e h) Q X :=
  w_orV (a.imp fun w h1 ⟨b, ew, b2, t, q⟩ => ⟨b, ew, fun c => by
    obtain ⟨z, h3, ez, rfl, rfl⟩ := wE_some (t c)
    refine wE_of ez ?_
    rw [c, Bool.false_or] at q; exact q, fun c => by rw [c, Bool.true_or] at q; exact q⟩)
theorem zip_go {a b : Nat} {xs ys : List W} {P : W → W → List W → List W → Prop} (e1 : h[a]? = some (.lst xs)) (e2 : h[b]? = some (.lst ys)) (q : P (.ref a) (.ref b) xs ys) : ∃ x y xs ys, [W.ref a, W.ref b] = [x, y] ∧ seqL h x = some xs ∧ seqL h y = some ys ∧ P x y xs ys := ⟨_, _, xs, ys, rfl, seqL_of e1, seqL_of e2, q⟩
theorem Rp.back {bs : List Blk} {b : Blk} {i : Nat} (e : bs[i]? = some b) (H : Rp (b :: bs.eraseIdx i) h) : Rp bs h := H.perm (set_perm (y := b) e).1.symm
theorem Rp.d1 {a b : Blk} {bs : List Blk} (H : Rp (a :: b :: bs) h) : Rp (a :: bs) h := H.er 1
theorem Rp.d2 {a b c : Blk} {bs : List Blk} (H : Rp (a :: b :: c :: bs) h) : Rp (a :: b :: bs) h := H.er 2
theorem Rp.d3 {a b c d : Blk} {bs : List Blk} (H : Rp (a :: b :: c :: d :: bs) h) : Rp (a :: b :: c :: bs) h := H.er 3
theorem Rp.sw {a b : Blk} {bs : List Blk} (H : Rp (a :: b :: bs) h) : Rp (b :: a :: bs) h := H.perm (.swap _ _ _)
theorem andp_go {b b2 : Bool} {r : Rs W} {h1 : Hv} {P : Bool → Prop} (t : b = true → wE r (fun w2 h2 => w2 = .bl b2 ∧ h2 = h1) nX) (q : P b2) : ∃ b2, (b = true → wE r (fun w2 h2 => w2 = .bl b2 ∧ h2 = h1) nX) ∧ P b2 := ⟨b2, t, q⟩
theorem orp_go {b b2 : Bool} {r : Rs W} {h1 : Hv} {P : Bool → Prop} (t : b = false → wE r (fun w2 h2 => w2 = .bl b2 ∧ h2 = h1) nX) (q : P b2) : ∃ b2, (b = false → wE r (fun w2 h2 => w2 = .bl b2 ∧ h2 = h1) nX) ∧ P b2 := ⟨b2, t, q⟩
theorem w_andTP {mt mt' : ME Bool} (a : wE (mt e h) (fun b h1 => ∃ b2, (b = true → wE (mt' e h1) (fun w2 h2 => w2 = b2 ∧ h2 = h1) nX) ∧ QB (b && b2) h1) X) : wE (mAndT mt mt' e h) QB X :=
  w_andT (a.imp fun b h1 ⟨b2, t, q⟩ => ⟨fun c => by
    obtain ⟨z, h3, ez, rfl, rfl⟩ := wE_some (t c)
    refine wE_of ez ?_
    rw [c, Bool.true_and] at q; exact q, fun c => by rw [c, Bool.false_and] at q; exact q⟩)
theorem w_orTP {mt mt' : ME Bool} (a : wE (mt e h) (fun b h1 => ∃ b2, (b = false → wE (mt' e h1) (fun w2 h2 => w2 = b2 ∧ h2 = h1) nX) ∧ QB (b || b2) h1) X) : wE (mOrT mt mt' e h) QB X :=
  w_orT (a.imp fun b h1 ⟨b2, t, q⟩ => ⟨fun c => by
    obtain ⟨z, h3, ez, rfl, rfl⟩ := wE_some (t c)
    refine wE_of ez ?_
    rw [c, Bool.false_or] at q; exact q, fun c => by rw [c, Bool.true_or] at q; exact q⟩)
theorem andtp_go {b b2 : Bool} {r : Rs Bool} {h1 : Hv} {P : Bool → Prop} (t : b = true → wE r (fun w2 h2 => w2 = b2 ∧ h2 = h1) nX) (q : P b2) : ∃ b2, (b = true → wE r (fun w2 h2 => w2 = b2 ∧ h2 = h1) nX) ∧ P b2 := ⟨b2, t, q⟩
theorem ortp_go {b b2 : Bool} {r : Rs Bool} {h1 : Hv} {P : Bool → Prop} (t : b = false → wE r (fun w2 h2 => w2 = b2 ∧ h2 = h1) nX) (q : P b2) : ∃ b2, (b = false → wE r (fun w2 h2 => w2 = b2 ∧ h2 = h1) nX) ∧ P b2 := ⟨b2, t, q⟩
theorem x_forI {g : W → MS} {mb : MS} (Inv : Nat → Ev → Hv → Prop)
    (a : wE (ml e h) (fun ws h1 => ∃ j : Int, ws = [.int j] ∧ (-4611686018427387904 ≤ j ∧ j < 4611686018427387904) ∧ Inv 0 e h1 ∧
      (∀ (i : Nat) e h, (i : Int) < j → Inv i e h → wS (g (.int i) e h) (fun e1 h1 => wS (mb e1 h1) (Inv (i + 1)) T X N (Inv (i + 1))) nT nX nE nE) ∧ ∀ e h, Inv j.toNat e h → N e h) X) : wS (sFor (mRg1 ml) g mb e h) N T X B C :=
  x_for Inv (w_rg1 (a.imp fun ws h1 ⟨j, ew, c, i0, turn, done⟩ => by
    have len : (Z.intsFrom 0 j.toNat).length = j.toNat := by simp [Z.intsFrom]
    refine ⟨j, ew, c, i0, fun i w e h hw hi => ⟨trivial, ?_⟩, fun e h hi => ⟨trivial, done e h ?_⟩⟩
    · have hl : i < (Z.intsFrom 0 j.toNat).length := (List.getElem?_eq_some_iff.mp hw).1
      have hw2 : w = .int (i : Int) := by
        have : (Z.intsFrom 0 j.toNat)[i]? = some (.int ((0 : Int) + i)) := Z.intsFrom_at (by omega)
        have hw3 : (Z.intsFrom 0 j.toNat)[i]? = some w := hw
        rw [this] at hw3; cases hw3; simp
      rw [hw2]
      exact turn i e h (by omega) hi
    · have hi : Inv (Z.intsFrom 0 j.toNat).length e h := hi
      rw [len] at hi; exact hi))
theorem ct0 {a0 a1 a2 a3 a4 a5 : W} : cutW [a0, a1, a2, a3, a4, a5] none (some 0) = [] := rfl
theorem cd0 {a0 a1 a2 a3 a4 a5 : W} : cutW [a0, a1, a2, a3, a4, a5] (some 0) none = [a0, a1, a2, a3, a4, a5] := rfl
theorem ct1 {a0 a1 a2 a3 a4 a5 : W} : cutW [a0, a1, a2, a3, a4, a5] none (some 1) = [a0] := rfl
theorem cd1 {a0 a1 a2 a3 a4 a5 : W} : cutW [a0, a1, a2, a3, a4, a5] (some 1) none = [a1, a2, a3, a4, a5] := rfl
theorem ct2 {a0 a1 a2 a3 a4 a5 : W} : cutW [a0, a1, a2, a3, a4, a5] none (some 2) = [a0, a1] := rfl
theorem cd2 {a0 a1 a2 a3 a4 a5 : W} : cutW [a0, a1, a2, a3, a4, a5] (some 2) none = [a2, a3, a4, a5] := rfl
theorem ct3 {a0 a1 a2 a3 a4 a5 : W} : cutW [a0, a1, a2, a3, a4, a5] none (some 3) = [a0, a1, a2] := rfl
theorem cd3 {a0 a1 a2 a3 a4 a5 : W} : cutW [a0, a1, a2, a3, a4, a5] (some 3) none = [a3, a4, a5] := rfl
theorem ct4 {a0 a1 a2 a3 a4 a5 : W} : cutW [a0, a1, a2, a3, a4, a5] none (some 4) = [a0, a1, a2, a3] := rfl
theorem cd4 {a0 a1 a2 a3 a4 a5 : W} : cutW [a0, a1, a2, a3, a4, a5] (some 4) none = [a4, a5] := rfl
theorem ct5 {a0 a1 a2 a3 a4 a5 : W} : cutW [a0, a1, a2, a3, a4, a5] none (some 5) = [a0, a1, a2, a3, a4] := rfl
theorem cd5 {a0 a1 a2 a3 a4 a5 : W} : cutW [a0, a1, a2, a3, a4, a5] (some 5) none = [a5] := rfl
theorem ct6 {a0 a1 a2 a3 a4 a5 : W} : cutW [a0, a1, a2, a3, a4, a5] none (some 6) = [a0, a1, a2, a3, a4, a5] := rfl
theorem cd6 {a0 a1 a2 a3 a4 a5 : W} : cutW [a0, a1, a2, a3, a4, a5] (some 6) none = [] := rfl
theorem x_forS {msrc : ME Src} {g : W → MS} {mb : MS} (a : wE (msrc e h) (fun s h1 => ∃ Inv : Nat → Ev → Hv → Prop, Inv 0 e h1 ∧ (∀ i w e h, s.ws[i]? = some w → Inv i e h → s.ok h ∧ wS (g w e h) (fun e1 h1 => wS (mb e1 h1) (Inv (i + 1)) T X N (Inv (i + 1))) nT nX nE nE) ∧ ∀ e h, Inv s.ws.length e h → s.ok h ∧ N e h) X) : wS (sFor msrc g mb e h) N T X B C :=
  x_eS (a.imp fun s h1 ⟨I, i0, turn, done⟩ => x_loop I i0 turn done)
end
end Z
/-! The plain side: own ==, own repr, texts with braces. -/
namespace Z
open PySem PyProof.Rows L2
theorem insAt_at {h : Hv} {C : Addr} {n : Nat} {fs : List (Str × W)} (e : h[n]? = some (.ins C fs)) : insAt [C] h (.ref n) = some (n, C, fs) := by
  show (match h[n]? with
      | some (.ins C' fs) => if C' ∈ [C] then some (n, C', fs) else none
      | _ => none) = _
  rw [e]
  simp
theorem insAt_no {h : Hv} {C D : Addr} {n : Nat} {fs : List (Str × W)} (e : h[n]? = some (.ins D fs)) (ne : D ≠ C) : insAt [C] h (.ref n) = none := by
  show (match h[n]? with
      | some (.ins C' fs) => if C' ∈ [C] then some (n, C', fs) else none
      | _ => none) = _
  rw [e]
  simp [ne]
section
variable {e : Ev} {h : Hv} {Q : W → Hv → Prop} {X : XH} {C D : Addr} {n : Nat} {fs : List (Str × W)} {g1 g2 : W → W → M W} {c1 c2 F : List W → M W} {y : W}
theorem w_owT (e : h[n]? = some (.ins C fs)) (q : wE (g1 (.ref n) y h) Q X) : wE (orM C g1 g2 (.ref n) y h) Q X := by
  unfold orM
  rw [insAt_at e]
  exact q
theorem w_owF (e : h[n]? = some (.ins D fs)) (ne : D ≠ C) (q : wE (g2 (.ref n) y h) Q X) : wE (orM C g1 g2 (.ref n) y h) Q X := by
  unfold orM
  rw [insAt_no e ne]
  exact q
theorem w_ocT (e : h[n]? = some (.ins C fs)) (q : wE (c1 [.ref n] h) Q X) : wE (orC C c1 c2 [.ref n] h) Q X := by
  unfold orC
  simp only [insAt_at e]
  exact q
theorem w_ocF (e : h[n]? = some (.ins D fs)) (ne : D ≠ C) (q : wE (c2 [.ref n] h) Q X) : wE (orC C c1 c2 [.ref n] h) Q X := by
  unfold orC
  simp only [insAt_no e ne]
  exact q
theorem w_own {k0 : Bool → Bool} {tl : List Value} {t : Value} (e : h[n]? = some (.ins C fs)) (et : tyW h y = some t) (m : t ∈ tl) (q : wE (F [.ref n, y] h) (fun v h' => ∃ b, v = .bl b ∧ Q (.bl (k0 b)) h') nX) : wE (ownM k0 C tl F (.ref n) y h) Q X := by
  unfold ownM
  simp only [insAt_at e, et]
  rw [if_pos m]
  match hF : F [.ref n, y] h, q with
  | some (.error x, h1), q => exact q.elim
  | some (.ok v, h1), q =>
    obtain ⟨b, rfl, q⟩ := q
    exact q
theorem w_reprOwn (e : h[n]? = some (.ins C fs)) (q : wE (F [.ref n] h) (fun v h' => ∃ z, v = .str z ∧ Q (.str z) h') nX) : wE (reprOwnM C F [.ref n] h) Q X := by
  unfold reprOwnM one
  simp only [insAt_at e]
  match hF : F [.ref n] h, q with
  | some (.error x, h1), q => exact q.elim
  | some (.ok v, h1), q =>
    obtain ⟨b, rfl, q⟩ := q
    exact q
theorem w_inOwn {k m : Nat} (e : h[n]? = some (.ins C fs)) (el : h[k]? = some (.lst [.non, .ref m])) (q : wE (F [.ref n, .non] h) (fun v h' => ∃ b, v = .bl b ∧ (b = true → Q (.bl true) h') ∧ (b = false → h'[k]? = some (.lst [.non, .ref m]) ∧ (m = n → Q (.bl true) h') ∧ (m ≠ n → (∃ fs, h'[m]? = some (.ins C fs)) ∧ (∃ fs, h'[n]? = some (.ins C fs)) ∧ wE (F [.ref m, .ref n] h') (fun v h2 => ∃ b, v = .bl b ∧ (b = true → Q (.bl true) h2) ∧ (b = false → h2[k]? = some (.lst [.non, .ref m]) ∧ Q (.bl false) h2)) nX))) nX) : wE (inOwnM C F (.ref n) (.ref k) h) Q X := by
  unfold inOwnM
  simp only [insAt_at e, lst2_of el]
  match hF : F [.ref n, .non] h, q with
  | some (.error x, h1), q => exact q.elim
  | some (.ok v, h1), q =>
    obtain ⟨b, rfl, q1, q2⟩ := q
    cases b with
    | true => exact q1 rfl
    | false =>
      obtain ⟨l1, s1, s2⟩ := q2 rfl
      simp only
      unfold inOwn2
      simp only [lst2_of l1]
      rw [if_pos trivial]
      by_cases c : m = n
      · rw [if_pos c]; exact s1 c
      · rw [if_neg c]
        obtain ⟨⟨f1, a1⟩, ⟨f2, a2⟩, q⟩ := s2 c
        simp only [insAt_at a1, insAt_at a2]
        match hF2 : F [.ref m, .ref n] h1, q with
        | some (.error x, h2), q => exact q.elim
        | some (.ok v, h2), q =>
          obtain ⟨b, rfl, q1, q2⟩ := q
          cases b with
          | true => exact q1 rfl
          | false =>
            obtain ⟨l2, q⟩ := q2 rfl
            simp only
            rw [if_pos (lst2_of l2)]
            exact q
theorem w_fmtI {m : ME W} (a : wE (m e h) (fun w h1 => ∃ i, w = .int i ∧ i.natAbs.log2 < 1920 ∧ Q (.str (toString i)) h1) X) : wE (mFmt m e h) Q X := by
  unfold mFmt bE bnd
  match hm : m e h, a with
  | some (.error x, h1), a => exact a
  | some (.ok v, h1), a =>
    obtain ⟨i, rfl, c, q⟩ := a
    show wE (if i.natAbs.log2 < 1920 then some (.ok (.str (toString i)), h1) else none) Q X
    rw [if_pos c]
    exact q
theorem w_jsN {acc : Str} (q : Q (.str acc) h) : wE (mJs [] acc e h) Q X := q
theorem w_jsC {m : ME W} {ms : List (ME W)} {acc : Str} (a : wE (m e h) (fun w h1 => ∃ y, w = .str y ∧ (acc ++ y).length ≤ sizeLine ∧ wE (mJs ms (acc ++ y) e h1) Q X) X) : wE (mJs (m :: ms) acc e h) Q X := by
  unfold mJs bE bnd
  match hm : m e h, a with
  | some (.error x, h1), a => exact a
  | some (.ok v, h1), a =>
    obtain ⟨y, rfl, c, q⟩ := a
    show wE (if (acc ++ y).length ≤ sizeLine then mJs ms (acc ++ y) e h1 else none) Q X
    rw [if_pos c]
    exact q
theorem w_jsK {m : ME W} {ms : List (ME W)} {acc : Str} {k : Nat} (c : acc.length ≤ k) (hk : Nat.ble k 1000 = true) (a : wE (m e h) (fun w h1 => ∃ y, w = .str y ∧ y.length ≤ 16 ∧ ∀ acc' : Str, acc'.length ≤ k + 16 → wE (mJs ms acc' e h1) Q X) X) : wE (mJs (m :: ms) acc e h) Q X :=
  w_jsC (a.imp fun w h1 ⟨y, ey, cy, q⟩ => by
    have := Str.length_append acc y
    have := Nat.le_of_ble_eq_true hk
    have s : (2000 : Nat) ≤ sizeLine := by decide
    exact ⟨y, ey, by omega, q _ (by omega)⟩)
end
theorem w_tuple {h : Hv} {Q : W → Hv → Prop} {X : XH} {w : W} {ws : List W} (e1 : seqLT h w = some ws) (q : Q (.tup ws) h) : wE (tupleM [w] h) Q X := by
  unfold tupleM one
  simp only [e1]
  exact q
theorem w_rg2s {ml : ME (List W)} {e : Ev} {h : Hv} {QS : Src → Hv → Prop} {X : XH} (a : wE (ml e h) (fun ws h1 => ∃ i j : Int, ws = [.int i, .int j] ∧ (-1000000 ≤ i ∧ i ≤ 1000000 ∧ -1000000 ≤ j ∧ j ≤ 1000000) ∧ QS ⟨fun _ => True, intsFrom i (j - i).toNat⟩ h1) X) : wE (mRg2 ml e h) QS X := wbE (a.imp fun ws h1 ⟨i, j, ew, c, q⟩ => by
  subst ew
  show wE (srcR i j h1) QS X
  unfold srcR
  rw [ifP_pos ⟨by omega, by omega, by omega, by omega⟩]
  exact q)
theorem intTxt {i : Int} (h0 : 0 ≤ i) (h1 : i ≤ 1000) : i.natAbs.log2 < 1920 ∧ Str.length (toString i) ≤ 16 := by
  obtain ⟨n, rfl⟩ := Int.eq_ofNat_of_zero_le h0
  have hn : n < 1001 := by omega
  have a : ∀ n : Nat, n < 1001 → (n : Int).natAbs.log2 < 1920 ∧ Str.length (toString (n : Int)) ≤ 16 := by decide +kernel
  exact a n hn
end Z
/-! The rules once more, over judgements that stay folded (printed by mkir.py). -/
namespace Z
open PySem PyProof.Rows L2
@[irreducible] def eW {α : Type} (r : Rs α) (Q : α → Hv → Prop) (X : XH) : Prop := wE r Q X
@[irreducible] def sW (r : Option (Except AX Fl × Ev × Hv)) (N : Ev → Hv → Prop) (T : W → Hv → Prop) (X : XH) (B C : Ev → Hv → Prop) : Prop := wS r N T X B C
section
variable {α β : Type} {e : Ev} {h : Hv} {Q : α → Hv → Prop} {X : XH} {N N' B B' C C' : Ev → Hv → Prop} {T T' : W → Hv → Prop} {X' : XH}
theorem i_wE_imp {r : Rs α} {Q' : α → Hv → Prop} (a : eW r Q X) (f : ∀ x h, Q x h → Q' x h) : eW r Q' X := by with_unfolding_all exact wE.imp a f
theorem i_wE_some {r : Rs α} (a : eW r Q fun _ _ => False) : ∃ x h', r = some (.ok x, h') ∧ Q x h' := by with_unfolding_all exact wE_some a
theorem i_wE_of {r : Rs α} {x : α} {h' : Hv} (e : r = some (.ok x, h')) (q : Q x h') : eW r Q X := by with_unfolding_all exact wE_of e q
theorem i_wbnd {m : M α} {k : α → M β} {Q : β → Hv → Prop} (a : eW (m h) (fun x h1 => eW (k x h1) Q X) X) : eW (bnd m k h) Q X := by with_unfolding_all exact wbnd a
theorem i_wbE {m : ME α} {k : α → ME β} {Q : β → Hv → Prop} (a : eW (m e h) (fun x h1 => eW (k x e h1) Q X) X) : eW (bE m k e h) Q X := by with_unfolding_all exact wbE a
variable {Q : W → Hv → Prop} {QL : List W → Hv → Prop} {QB : Bool → Hv → Prop} {ma mb mc : ME W} {ml : ME (List W)} {mt mt' : ME Bool}
theorem u_var {i : Nat} {w : W} (he : e[i]? = some (some w)) (q : Q w h) : eW (mVar i e h) Q X := by with_unfolding_all exact w_var he q
theorem u_c {w : W} (q : Q w h) : eW (mC w e h) Q X := by with_unfolding_all exact w_c q
theorem u_b2 {g : W → W → M W} (a : eW (ma e h) (fun x h1 => eW (mb e h1) (fun y h2 => eW (g x y h2) Q X) X) X) : eW (mB2 g ma mb e h) Q X := by with_unfolding_all exact w_b2 a
theorem u_u1 {g : W → M W} (a : eW (ma e h) (fun x h1 => eW (g x h1) Q X) X) : eW (mU1 g ma e h) Q X := by with_unfolding_all exact w_u1 a
theorem u_gI {C : Int → Int → Prop} [∀ i j, Decidable (C i j)] {f : Int → Int → W} {i j : Int} (c : C i j) (q : Q (f i j) h) : eW (gI C f (.int i) (.int j) h) Q X := by with_unfolding_all exact w_gI c q
theorem u_add {i j : Int} (q : Q (.int (i + j)) h) : eW (addM (.int i) (.int j) h) Q X := by with_unfolding_all exact w_add q
theorem u_sub {i j : Int} (q : Q (.int (i - j)) h) : eW (subM (.int i) (.int j) h) Q X := by with_unfolding_all exact w_sub q
theorem u_mul {i j : Int} (c : CMul i j) (q : Q (.int (i * j)) h) : eW (mulM (.int i) (.int j) h) Q X := by with_unfolding_all exact w_mul c q
theorem u_fdiv {i j : Int} (c : CDiv i j) (q : Q (.int (i / j)) h) : eW (fdivM (.int i) (.int j) h) Q X := by with_unfolding_all exact w_fdiv c q
theorem u_mod {i j : Int} (c : 0 < j) (q : Q (.int (i % j)) h) : eW (modM (.int i) (.int j) h) Q X := by with_unfolding_all exact w_mod c q
theorem u_pow {i j : Int} (c : CPow i j) (q : Q (.int (i ^ j.toNat)) h) : eW (powM (.int i) (.int j) h) Q X := by with_unfolding_all exact w_pow c q
theorem u_fdiv' {i j : Int} (c : 0 < j) (c2 : j < 1073741824) (q : Q (.int (i / j)) h) : eW (fdivM (.int i) (.int j) h) Q X := by with_unfolding_all exact w_fdiv' c c2 q
theorem u_mulL {i j : Int} (c : -(2 ^ 64) < i) (c2 : i < 2 ^ 64) (q : Q (.int (i * j)) h) : eW (mulM (.int i) (.int j) h) Q X := by with_unfolding_all exact w_mulL c c2 q
theorem u_mulR {i j : Int} (c : -(2 ^ 64) < j) (c2 : j < 2 ^ 64) (q : Q (.int (i * j)) h) : eW (mulM (.int i) (.int j) h) Q X := by with_unfolding_all exact w_mulR c c2 q
theorem u_pow' {i j : Int} (c : 0 ≤ j) (c1 : j ≤ 1000000) (c2 : i.natAbs < 2 ^ 64) (q : Q (.int (i ^ j.toNat)) h) : eW (powM (.int i) (.int j) h) Q X := by with_unfolding_all exact w_pow' c c1 c2 q
theorem u_lt {i j : Int} (q : Q (.bl (decide (i < j))) h) : eW (ltM (.int i) (.int j) h) Q X := by with_unfolding_all exact w_lt q
theorem u_le {i j : Int} (q : Q (.bl (decide (i ≤ j))) h) : eW (leM (.int i) (.int j) h) Q X := by with_unfolding_all exact w_le q
theorem u_gt {i j : Int} (q : Q (.bl (decide (j < i))) h) : eW (gtM (.int i) (.int j) h) Q X := by with_unfolding_all exact w_gt q
theorem u_ge {i j : Int} (q : Q (.bl (decide (j ≤ i))) h) : eW (geM (.int i) (.int j) h) Q X := by with_unfolding_all exact w_ge q
theorem u_neg {i : Int} (q : Q (.int (-i)) h) : eW (negM (.int i) h) Q X := by with_unfolding_all exact w_neg q
theorem u_nil (q : QL [] h) : eW (mNil e h) QL X := by with_unfolding_all exact w_nil q
theorem u_cons (a : eW (ma e h) (fun w h1 => eW (ml e h1) (fun ws h2 => QL (w :: ws) h2) X) X) : eW (mCons ma ml e h) QL X := by with_unfolding_all exact w_cons a
theorem u_G {g : List W → M W} (a : eW (ml e h) (fun ws h1 => eW (g ws h1) Q X) X) : eW (mG g ml e h) Q X := by with_unfolding_all exact w_G a
theorem u_F {n : Nat} {F : List W → M W} (a : eW (ml e h) (fun ws h1 => ws.length = n ∧ eW (F ws h1) Q X) X) : eW (mF n F ml e h) Q X := by with_unfolding_all exact w_F a
theorem u_Kw {n m : Nat} {F : List W → M W} {sel : List Nat} {dws : List W} {mk : ME (List W)} (a : eW (ml e h) (fun ws h1 => eW (mk e h1) (fun zs h2 => (ws.length = n ∧ zs.length = m) ∧ eW (F (pick sel (ws ++ zs ++ dws)) h2) Q X) X) X) : eW (mKw n m F sel dws ml mk e h) Q X := by with_unfolding_all exact w_Kw a
theorem u_tup (a : eW (ml e h) (fun ws h1 => ws.length ≤ sizeLine ∧ Q (.tup ws) h1) X) : eW (mTup ml e h) Q X := by with_unfolding_all exact w_tup a
theorem u_lst (a : eW (ml e h) (fun ws h1 => ws.length ≤ sizeLine ∧ Q (.ref h1.length) (h1 ++ [.lst ws])) X) : eW (mLst ml e h) Q X := by with_unfolding_all exact w_lst a
theorem u_ix {x : W} {ws : List W} {i : Int} {w : W} (e1 : seqLT h x = some ws) (e2 : atI ws i = some w) (q : Q w h) : eW (ixM x (.int i) h) Q X := by with_unfolding_all exact w_ix e1 e2 q
theorem u_ixT {ws : List W} {i : Int} {w : W} (e2 : atI ws i = some w) (q : Q w h) : eW (ixM (.tup ws) (.int i) h) Q X := by with_unfolding_all exact w_ixT e2 q
theorem u_ixC {ws : List W} {i : Int} {w : W} (e2 : atI ws i = some w) (q : Q w h) : eW (ixM (.cl ws) (.int i) h) Q X := by with_unfolding_all exact w_ixC e2 q
theorem u_test (a : eW (ma e h) (fun w h1 => ∃ b, w = .bl b ∧ QB b h1) X) : eW (mTest ma e h) QB X := by with_unfolding_all exact w_test a
theorem u_notT (a : eW (mt e h) (fun b h1 => QB (!b) h1) X) : eW (mNotT mt e h) QB X := by with_unfolding_all exact w_notT a
theorem u_andT (a : eW (mt e h) (fun b h1 => (b = true → eW (mt' e h1) QB X) ∧ (b = false → QB false h1)) X) : eW (mAndT mt mt' e h) QB X := by with_unfolding_all exact w_andT a
theorem u_orT (a : eW (mt e h) (fun b h1 => (b = false → eW (mt' e h1) QB X) ∧ (b = true → QB true h1)) X) : eW (mOrT mt mt' e h) QB X := by with_unfolding_all exact w_orT a
theorem u_andV (a : eW (ma e h) (fun w h1 => ∃ b, w = .bl b ∧ (b = true → eW (mb e h1) Q X) ∧ (b = false → Q (.bl false) h1)) X) : eW (mAndV ma mb e h) Q X := by with_unfolding_all exact w_andV a
theorem u_orV (a : eW (ma e h) (fun w h1 => ∃ b, w = .bl b ∧ (b = false → eW (mb e h1) Q X) ∧ (b = true → Q (.bl true) h1)) X) : eW (mOrV ma mb e h) Q X := by with_unfolding_all exact w_orV a
theorem u_notV (a : eW (ma e h) (fun w h1 => ∃ b, w = .bl b ∧ Q (.bl (!b)) h1) X) : eW (mNotV ma e h) Q X := by with_unfolding_all exact w_notV a
theorem u_if (a : eW (mt e h) (fun b h1 => (b = true → eW (ma e h1) Q X) ∧ (b = false → eW (mb e h1) Q X)) X) : eW (mIf mt ma mb e h) Q X := by with_unfolding_all exact w_if a
theorem u_abs {i : Int} (q : Q (.int (if i < 0 then -i else i)) h) : eW (absM [.int i] h) Q X := by with_unfolding_all exact w_abs q
theorem u_max2 {i j : Int} (q : Q (.int (if j > i then j else i)) h) : eW (max2M [.int i, .int j] h) Q X := by with_unfolding_all exact w_max2 q
theorem u_min2 {i j : Int} (q : Q (.int (if j < i then j else i)) h) : eW (min2M [.int i, .int j] h) Q X := by with_unfolding_all exact w_min2 q
theorem u_len {w : W} {ws : List W} (e1 : seqLT h w = some ws) (q : Q (.int ws.length) h) : eW (lenM [w] h) Q X := by with_unfolding_all exact w_len e1 q
variable {m k : MS}
theorem i_wS_imp {r : Option (Except AX Fl × Ev × Hv)} (a : sW r N T X B C) (f1 : ∀ e h, N e h → N' e h) (f2 : ∀ w h, T w h → T' w h) (f3 : ∀ x h, X x h → X' x h) (f4 : ∀ e h, B e h → B' e h) (f5 : ∀ e h, C e h → C' e h) : sW r N' T' X' B' C' := by with_unfolding_all exact wS.imp a f1 f2 f3 f4 f5
theorem y_nx (q : N e h) : sW (sNx e h) N T X B C := by with_unfolding_all exact x_nx q
theorem y_bk (q : B e h) : sW (sBk e h) N T X B C := by with_unfolding_all exact x_bk q
theorem y_ct (q : C e h) : sW (sCt e h) N T X B C := by with_unfolding_all exact x_ct q
theorem y_rt {w : W} (q : T w h) : sW (sRt w e h) N T X B C := by with_unfolding_all exact x_rt q
theorem y_seq (a : sW (m e h) (fun e1 h1 => sW (k e1 h1) N T X B C) T X B C) : sW (sSeq m k e h) N T X B C := by with_unfolding_all exact x_seq a
theorem y_seqI (P : Ev → Hv → Prop) (a : sW (m e h) P T X B C) (b : ∀ e h, P e h → sW (k e h) N T X B C) : sW (sSeq m k e h) N T X B C := by with_unfolding_all exact x_seqI P a b
theorem y_eS {m : ME α} {k : α → MS} (a : eW (m e h) (fun x h1 => sW (k x e h1) N T X B C) X) : sW (eS m k e h) N T X B C := by with_unfolding_all exact x_eS a
theorem y_exp (a : eW (ma e h) (fun _ h1 => N e h1) X) : sW (sExp ma e h) N T X B C := by with_unfolding_all exact x_exp a
theorem y_ret (a : eW (ma e h) (fun w h1 => T w h1) X) : sW (sRet ma e h) N T X B C := by with_unfolding_all exact x_ret a
theorem y_if (a : eW (mt e h) (fun b h1 => (b = true → sW (m e h1) N T X B C) ∧ (b = false → sW (k e h1) N T X B C)) X) : sW (sIf mt m k e h) N T X B C := by with_unfolding_all exact x_if a
theorem y_asg {g : W → MS} (a : eW (ma e h) (fun w h1 => sW (g w e h1) N T X B C) X) : sW (sAsg ma g e h) N T X B C := by with_unfolding_all exact x_asg a
theorem y_nm {i : Nat} {w : W} (q : N (e.set i (some w)) h) : sW (gNm i w e h) N T X B C := by with_unfolding_all exact x_nm q
theorem y_tp {n : Nat} {g : List W → MS} {ws : List W} (hn : ws.length = n) (a : sW (g ws e h) N T X B C) : sW (gTp n g (.tup ws) e h) N T X B C := by with_unfolding_all exact x_tp hn a
theorem y_gnil (q : N e h) : sW (gsNil [] e h) N T X B C := by with_unfolding_all exact x_gnil q
theorem y_gcons {g : W → MS} {gk : List W → MS} {w : W} {r : List W} (a : sW (g w e h) (fun e1 h1 => sW (gk r e1 h1) N T X B C) T X B C) : sW (gsCons g gk (w :: r) e h) N T X B C := by with_unfolding_all exact x_gcons a
theorem y_nxo {g : W → MS} {w : W} (a : sW (g w e h) N nT nX nE nE) : sW (nxo g w e h) N T X B C := by with_unfolding_all exact x_nxo a
theorem y_subM {g : W → W → W → Hv → Option Hv} {mo mi : ME W} {z : W} (a : eW (mo e h) (fun x h1 => eW (mi e h1) (fun y h2 => ∃ h3, g x y z h2 = some h3 ∧ N e h3) X) X) : sW (gSubM g mo mi z e h) N T X B C := by with_unfolding_all exact x_subM a
theorem y_aug {i : Nat} {g : W → W → M W} {w : W} (he : e[i]? = some (some w)) (a : eW (ma e h) (fun y h1 => eW (g w y h1) (fun z h2 => N (e.set i (some z)) h2) X) X) : sW (sAug i g ma e h) N T X B C := by with_unfolding_all exact x_aug he a
theorem i_ifP_wS {c : Prop} {r : Option (Except AX Fl × Ev × Hv)} (hc : c) (a : sW r N T X B C) : sW (ifP c r) N T X B C := by with_unfolding_all exact ifP_wS hc a
theorem y_loop {ok : Hv → Prop} {g : W → MS} {mb : MS} (Inv : Nat → Ev → Hv → Prop) {ws : List W} (h0 : Inv 0 e h)
    (turn : ∀ i w e h, ws[i]? = some w → Inv i e h → ok h ∧ sW (g w e h) (fun e1 h1 => sW (mb e1 h1) (Inv (i + 1)) T X N (Inv (i + 1))) nT nX nE nE)
    (done : ∀ e h, Inv ws.length e h → ok h ∧ N e h) : sW (loopL ok g mb ws e h) N T X B C := by with_unfolding_all exact x_loop Inv h0 turn done
theorem y_forR {g : W → MS} {mb : MS} (Inv : Nat → Ev → Hv → Prop)
    (a : eW (ml e h) (fun ws h1 => ∃ j : Int, ws = [.int j] ∧ (-(2 ^ 62) ≤ j ∧ j < 2 ^ 62) ∧ Inv 0 e h1 ∧
      (∀ (i : Nat) e h, (i : Int) < j → Inv i e h → sW (g (.int i) e h) (fun e1 h1 => sW (mb e1 h1) (Inv (i + 1)) T X N (Inv (i + 1))) nT nX nE nE) ∧ ∀ e h, Inv j.toNat e h → N e h) X) : sW (sForR ml g mb e h) N T X B C := by with_unfolding_all exact x_forR Inv a
theorem y_forL {g : W → MS} {mb : MS} (Inv : Nat → Ev → Hv → Prop)
    (a : eW (ma e h) (fun w h1 => ∃ ws, seqL h1 w = some ws ∧ Inv 0 e h1 ∧
      (∀ i x e h, ws[i]? = some x → Inv i e h → seqL h w = some ws ∧ sW (g x e h) (fun e1 h1 => sW (mb e1 h1) (Inv (i + 1)) T X N (Inv (i + 1))) nT nX nE nE) ∧ ∀ e h, Inv ws.length e h → seqL h w = some ws ∧ N e h) X) : sW (sForL ma g mb e h) N T X B C := by with_unfolding_all exact x_forL Inv a
theorem u_runB {n : Nat} {m : MS} {ws : List W} (a : sW (m (ws.map some ++ List.replicate (n - ws.length) none) h) (fun _ h => Q .non h) Q X nE nE) : eW (runB n m ws h) Q X := by with_unfolding_all exact w_runB a
end
section
variable {h : Hv} {n : Nat} {o v : AO} {ws : List W}
theorem u_mb {t : BT} {g : W → List W → M W} {mo : ME W} {me : ME (List W)} {e : Ev} {Q : W → Hv → Prop} {X : XH} (a : eW (mo e h) (fun x h1 => t.ok h1 x = true ∧ eW (me e h1) (fun ws h2 => eW (g x ws h2) Q X) X) X) : eW (mMb t g mo me e h) Q X := by with_unfolding_all exact w_mb a
theorem u_append {w : W} {Q : W → Hv → Prop} {X : XH} (e1 : h[n]? = some (.lst ws)) (c : ws.length < sizeLine) (q : Q .non (h.set n (.lst (ws ++ [w])))) : eW (appendM (.ref n) [w] h) Q X := by with_unfolding_all exact w_append e1 c q
theorem u_append' {mo : ME W} {me : ME (List W)} {e : Ev} {Q : W → Hv → Prop} {X : XH} (a : eW (mo e h) (fun x h1 => ∃ n l, x = .ref n ∧ h1[n]? = some (.lst l) ∧ eW (me e h1) (fun ws h2 => ∃ w l2, ws = [w] ∧ h2[n]? = some (.lst l2) ∧ l2.length < sizeLine ∧ Q .non (h2.set n (.lst (l2 ++ [w])))) X) X) : eW (mMb .lst appendM mo me e h) Q X := by with_unfolding_all exact w_append' a
end
section
variable {h : Hv} {Q : W → Hv → Prop} {X : XH}
theorem u_repr {w : W} {d : PyData} (e : toD h 60 w = some d) (r : ReprOk d) (q : Q (.str d.shown) h) : eW (reprM [w] h) Q X := by with_unfolding_all exact w_repr e r q
theorem u_eqD {x y : W} {d d' : PyData} (e : dOf h x = some d) (e' : dOf h y = some d') (b : bothS x y = false) (q : Q (.bl (PyData.eqv d d')) h) : eW (eqM x y h) Q X := by with_unfolding_all exact w_eqD e e' b q
theorem u_neD {x y : W} {d d' : PyData} (e : dOf h x = some d) (e' : dOf h y = some d') (b : bothS x y = false) (q : Q (.bl (!PyData.eqv d d')) h) : eW (neM x y h) Q X := by with_unfolding_all exact w_neD e e' b q
theorem u_eqI {i j : Int} (q : Q (.bl (decide (i = j))) h) : eW (eqM (.int i) (.int j) h) Q X := by with_unfolding_all exact w_eqI q
theorem u_neI {i j : Int} (q : Q (.bl (!decide (i = j))) h) : eW (neM (.int i) (.int j) h) Q X := by with_unfolding_all exact w_neI q
theorem u_eqB {i j : Bool} (q : Q (.bl (i == j)) h) : eW (eqM (.bl i) (.bl j) h) Q X := by with_unfolding_all exact w_eqB q
theorem u_neB {i j : Bool} (q : Q (.bl (!(i == j))) h) : eW (neM (.bl i) (.bl j) h) Q X := by with_unfolding_all exact w_neB q
theorem u_eqS {i j : Str} (q : Q (.bl (decide (i = j))) h) : eW (eqM (.str i) (.str j) h) Q X := by with_unfolding_all exact w_eqS q
theorem u_neS {i j : Str} (q : Q (.bl (!decide (i = j))) h) : eW (neM (.str i) (.str j) h) Q X := by with_unfolding_all exact w_neS q
theorem u_isi {isi : Value → Value → Option Bool} {x c : W} {t u : Value} {b : Bool} (e1 : tyW h x = some t) (e2 : clsW c = some u) (e3 : isi t u = some b) (q : Q (.bl b) h) : eW (isiM isi [x, c] h) Q X := by with_unfolding_all exact w_isi e1 e2 e3 q
end
section
variable {e : Ev} {h : Hv} {X : XH} {N B C : Ev → Hv → Prop} {T : W → Hv → Prop} {Q : W → Hv → Prop} {QS : Src → Hv → Prop} {QO : Option Int → Hv → Prop} {QU : Unit → Hv → Prop} {ma mb : ME W} {ml : ME (List W)}
theorem u_ixA {x : W} {ws : List W} {i : Int} {w : W} (e1 : seqLT h x = some ws) (e2 : atI ws i = some w) (q : Q w h) : eW (ixA x (.int i) h) Q X := by with_unfolding_all exact w_ixA e1 e2 q
theorem u_ixAT {ws : List W} {i : Int} {w : W} (e2 : atI ws i = some w) (q : Q w h) : eW (ixA (.tup ws) (.int i) h) Q X := by with_unfolding_all exact w_ixAT e2 q
theorem u_ixAC {ws : List W} {i : Int} {w : W} (e2 : atI ws i = some w) (q : Q w h) : eW (ixA (.cl ws) (.int i) h) Q X := by with_unfolding_all exact w_ixAC e2 q
theorem u_ixAS {z : Str} {i : Int} {c : Nat} (hz : z.length ≤ sizeLine) (e2 : atI z.cps.toList i = some c) (q : Q (.str ⟨#[c]⟩) h) : eW (ixA (.str z) (.int i) h) Q X := by with_unfolding_all exact w_ixAS hz e2 q
theorem u_catS {a b : Str} (c : a.length + b.length ≤ sizeLine) (q : Q (.str (a ++ b)) h) : eW (addM (.str a) (.str b) h) Q X := by with_unfolding_all exact w_catS c q
theorem u_catL {a b : Nat} {xs ys : List W} (e1 : h[a]? = some (.lst xs)) (e2 : h[b]? = some (.lst ys)) (c : xs.length + ys.length ≤ sizeLine) (q : Q (.ref h.length) (h ++ [.lst (xs ++ ys)])) : eW (addM (.ref a) (.ref b) h) Q X := by with_unfolding_all exact w_catL e1 e2 c q
theorem u_rev (a : eW (ma e h) (fun w h1 => ∃ z, w = .str z ∧ z.length ≤ sizeLine ∧ Q (.str (revS z)) h1) X) : eW (mRevS ma e h) Q X := by with_unfolding_all exact w_rev a
theorem u_chain {g g' : W → W → M W} {ma mb mc : ME W} (a : eW (ma e h) (fun x h1 => eW (mb e h1) (fun y h2 => eW (g x y h2) (fun z h3 => ∃ b, z = .bl b ∧ (b = true → eW (mc e h3) (fun w h4 => eW (g' y w h4) Q X) X) ∧ (b = false → Q (.bl false) h3)) X) X) X) : eW (mChain g g' ma mb mc e h) Q X := by with_unfolding_all exact w_chain a
theorem u_no (q : QO none h) : eW (mNo e h) QO X := by with_unfolding_all exact w_no q
theorem u_part (a : eW (ma e h) (fun w h1 => ∃ i, w = .int i ∧ QO (some i) h1) X) : eW (mPart ma e h) QO X := by with_unfolding_all exact w_part a
theorem u_sl {l u : ME (Option Int)} (a : eW (ma e h) (fun x h1 => eW (l e h1) (fun i h2 => eW (u e h2) (fun j h3 => eW (slM x i j h3) Q X) X) X) X) : eW (mSl ma l u e h) Q X := by with_unfolding_all exact w_sl a
theorem u_slS {z : Str} {l u : Option Int} (c : z.length ≤ sizeLine) (q : Q (.str (cutS z l u)) h) : eW (slM (.str z) l u h) Q X := by with_unfolding_all exact w_slS c q
theorem u_par {is : List Nat} (a : eW (ml e h) (fun ws h1 => ws.length = is.length ∧ N ((is.zip ws).foldl (fun e p => e.set p.1 (some p.2)) e) h1) X) : sW (sPar is ml e h) N T X B C := by with_unfolding_all exact w_par a
theorem u_it {ma : ME W} (a : eW (ma e h) (fun w h1 => eW (srcW w h1) QS X) X) : eW (mIt ma e h) QS X := by with_unfolding_all exact w_it a
theorem u_srcS {z : Str} (q : QS ⟨fun _ => True, signs z⟩ h) : eW (srcW (.str z) h) QS X := by with_unfolding_all exact w_srcS q
theorem u_srcT {ws : List W} (q : QS ⟨fun _ => True, ws⟩ h) : eW (srcW (.tup ws) h) QS X := by with_unfolding_all exact w_srcT q
theorem u_srcL {n : Nat} {ws : List W} (e1 : h[n]? = some (.lst ws)) (q : QS ⟨fun h' => seqL h' (.ref n) = some ws, ws⟩ h) : eW (srcW (.ref n) h) QS X := by with_unfolding_all exact w_srcL e1 q
theorem u_rg1 (a : eW (ml e h) (fun ws h1 => ∃ j : Int, ws = [.int j] ∧ (-(2 ^ 62) ≤ j ∧ j < 2 ^ 62) ∧ QS ⟨fun _ => True, intsFrom 0 j.toNat⟩ h1) X) : eW (mRg1 ml e h) QS X := by with_unfolding_all exact w_rg1 a
theorem y_for {msrc : ME Src} {g : W → MS} {mb : MS} (Inv : Nat → Ev → Hv → Prop)
    (a : eW (msrc e h) (fun s h1 => Inv 0 e h1 ∧ (∀ i w e h, s.ws[i]? = some w → Inv i e h → s.ok h ∧ sW (g w e h) (fun e1 h1 => sW (mb e1 h1) (Inv (i + 1)) T X N (Inv (i + 1))) nT nX nE nE) ∧ ∀ e h, Inv s.ws.length e h → s.ok h ∧ N e h) X) : sW (sFor msrc g mb e h) N T X B C := by with_unfolding_all exact x_for Inv a
theorem u_lcL {ok : Hv → Prop} {g : W → Ev → Option Ev} {tt : ME Bool} {te : ME W} {D : Nat} {ws : List W} (Inv : Nat → List W → Hv → Prop) (h0 : Inv 0 [] h)
    (turn : ∀ i w acc h, ws[i]? = some w → Inv i acc h → ok h ∧ ∃ e1, g w e = some e1 ∧ eW (tt e1 h) (fun b h1 => (b = true → eW (te e1 h1) (fun y h2 => h2[D]? = some (.lst acc) ∧ acc.length < sizeLine ∧ Inv (i + 1) (acc ++ [y]) (h2.set D (.lst (acc ++ [y])))) nX) ∧ (b = false → Inv (i + 1) acc h1)) nX)
    (done : ∀ acc h, Inv ws.length acc h → ok h ∧ Q (.ref D) h) : eW (lcL ok g tt te D e ws h) Q X := by with_unfolding_all exact w_lcL Inv h0 turn done
theorem u_lc {msrc : ME Src} {g : W → Ev → Option Ev} {tt : ME Bool} {te : ME W} {vs : List Nat} (a : eW (msrc e h) (fun s h1 => eW (lcL s.ok g tt te h1.length (wipeE e vs) s.ws (h1 ++ [.lst []])) Q X) X) : eW (mLc msrc g tt te vs e h) Q X := by with_unfolding_all exact w_lc a
theorem u_all {n : Nat} {bs : List Bool} (e1 : h[n]? = some (.lst (bs.map W.bl))) (q : Q (.bl (bs.all id)) h) : eW (allM [.ref n] h) Q X := by with_unfolding_all exact w_all e1 q
theorem u_any {n : Nat} {bs : List Bool} (e1 : h[n]? = some (.lst (bs.map W.bl))) (q : Q (.bl (bs.any id)) h) : eW (anyM [.ref n] h) Q X := by with_unfolding_all exact w_any e1 q
theorem u_join {mo me : ME W} (a : eW (mo e h) (fun x h1 => ∃ z, x = .str z ∧ eW (me e h1) (fun y h2 => ∃ (n : Nat) (ys : List Str), y = .ref n ∧ h2[n]? = some (.lst (ys.map W.str)) ∧ (ys.map (·.length)).sum + ys.length * z.length ≤ 16777216 ∧ Q (.str (Txt.join z ys)) h2) X) X) : eW (mJoin mo me e h) Q X := by with_unfolding_all exact w_join a
theorem u_listS {z : Str} (c : z.cps.size ≤ sizeLine) (q : Q (.ref h.length) (h ++ [.lst (signs z)])) : eW (listM [.str z] h) Q X := by with_unfolding_all exact w_listS c q
theorem u_lenS {z : Str} (c : z.length ≤ sizeLine) (q : Q (.int z.length) h) : eW (lenM [.str z] h) Q X := by with_unfolding_all exact w_lenS c q
theorem u_inS {a b : Str} (q : Q (.bl (!(Builtin.Str.occurrences b a 0 b.length 1).isEmpty)) h) : eW (inM (.str a) (.str b) h) Q X := by with_unfolding_all exact w_inS q
theorem u_inS1 {c : Nat} {b : Str} (q : Q (.bl (decide (c ∈ b.cps.toList))) h) : eW (inM (.str ⟨#[c]⟩) (.str b) h) Q X := by with_unfolding_all exact w_inS1 q
theorem u_inF {x y : W} {ws : List W} (e1 : seqLT h y = some ws) (f1 : flatW x = true) (f2 : ws.all flatW = true) (q : Q (.bl (inV (fV x) (ws.map fV))) h) : eW (inM x y h) Q X := by with_unfolding_all exact w_inF e1 f1 f2 q
end
section
variable {bs bs' : List Blk} {b b' : Blk} {h h' : Hv} {r : Nat} {o o' : AO}
end
section
variable {e : Ev} {h : Hv} {X : XH} {N B C : Ev → Hv → Prop} {T : W → Hv → Prop} {Q : W → Hv → Prop} {QS : Src → Hv → Prop} {QB : Bool → Hv → Prop} {ma mb mo mv : ME W} {ml mk : ME (List W)} {mt : ME Bool}
theorem u_fldAt {Cs : List Addr} {f : Str} {n : Nat} {D : Addr} {fs : List (Str × W)} {w : W} (e1 : h[n]? = some (.ins D fs)) (c : D ∈ Cs) (e2 : fs.lookup f = some w) (q : Q w h) :
    eW ((fun h => match insAt Cs h (.ref n) with
      | some q => (match q.2.2.lookup f with
        | some w => some (.ok w, h)
        | none => none)
      | none => none : M W) h) Q X := by with_unfolding_all exact w_fldAt e1 c e2 q
theorem u_fld {Cs : List Addr} {f : Str} (a : eW (mo e h) (fun x h1 => ∃ (n : Nat) (D : Addr) (fs : List (Str × W)) (w : W), x = .ref n ∧ h1[n]? = some (.ins D fs) ∧ D ∈ Cs ∧ fs.lookup f = some w ∧ Q w h1) X) : eW (mFld Cs f mo e h) Q X := by with_unfolding_all exact w_fld a
theorem y_fld {Cs : List Addr} {f : Str} (a : eW (mv e h) (fun y h1 => eW (mo e h1) (fun x h2 => ∃ (n : Nat) (D : Addr) (fs : List (Str × W)), x = .ref n ∧ h2[n]? = some (.ins D fs) ∧ D ∈ Cs ∧ fs.length < 1000 ∧ N e (h2.set n (.ins D (putW f y fs)))) X) X) : sW (sFldM Cs f mo mv e h) N T X B C := by with_unfolding_all exact x_fld a
theorem u_make {D : Addr} {n m : Nat} {F : List W → M W} {sel : List Nat} {dws : List W} (a : eW (ml e h) (fun ws h1 => eW (mk e h1) (fun zs h2 => (ws.length = n ∧ zs.length = m) ∧ eW (F (pick sel (.ref h2.length :: (ws ++ zs ++ dws))) (h2 ++ [.ins D []])) (fun w h3 => w = .non ∧ Q (.ref h2.length) h3) X) X) X) : eW (mMake D n m F sel dws ml mk e h) Q X := by with_unfolding_all exact w_make a
theorem u_dget {n : Nat} {kvs : List (Key × W)} {y w : W} {k : Key} (e1 : h[n]? = some (.dk kvs)) (e2 : keyW y = some k) (e3 : valW kvs k = some w) (q : Q w h) : eW (dgetM (.ref n) y h) Q X := by with_unfolding_all exact w_dget e1 e2 e3 q
theorem u_kd {d : Addr} {kvs : List (Str × Int)} {k : Str} {i : Int} (e2 : kvs.lookup k = some i) (q : Q (.int i) h) : eW (kdM d kvs (.gl d) (.str k) h) Q X := by with_unfolding_all exact w_kd e2 q
theorem u_keys {kvs : List (Str × Int)} (q : QS ⟨fun _ => True, kvs.map fun p => .str p.1⟩ h) : eW (mKeys kvs e h) QS X := by with_unfolding_all exact w_keys q
theorem u_zip (a : eW (ml e h) (fun ws h1 => ∃ x y xs ys, ws = [x, y] ∧ seqL h1 x = some xs ∧ seqL h1 y = some ys ∧ QS ⟨fun h' => seqL h' x = some xs ∧ seqL h' y = some ys, pairW xs ys⟩ h1) X) : eW (mZip ml e h) QS X := by with_unfolding_all exact w_zip a
theorem u_isiG {isi : Value → Value → Option Bool} {w c : W} {t u : Value} {b : Bool} (e1 : tyW h w = some t) (e2 : clsW c = some u) (e3 : isi t u = some b) (q : Q (.bl b) h) : eW (isiM isi [w, c] h) Q X := by with_unfolding_all exact w_isiG e1 e2 e3 q
theorem u_prsN {Q : List (Key × W) → Hv → Prop} (q : Q [] h) : eW (mPrs [] e h) Q X := by with_unfolding_all exact w_prsN q
theorem u_prsC {mk mv : ME W} {r : List (ME W × ME W)} {Q : List (Key × W) → Hv → Prop} (a : eW (mk e h) (fun x h1 => eW (mv e h1) (fun y h2 => eW (mPrs r e h2) (fun ps h3 => ∃ k, keyW x = some k ∧ Q ((k, y) :: ps) h3) X) X) X) : eW (mPrs ((mk, mv) :: r) e h) Q X := by with_unfolding_all exact w_prsC a
theorem u_dsp {ms : List (ME W × ME W)} (a : eW (mPrs ms e (h ++ [.dk []])) (fun l h1 => h1[h.length]? = some (.dk []) ∧ l.length ≤ 15 ∧ Q (.ref h.length) (h1.set h.length (.dk (mergeW [] l)))) X) : eW (mDsp ms e h) Q X := by with_unfolding_all exact w_dsp a
theorem y_kdin {k0 : Bool → Bool} {n : Nat} {kvs : List (Key × W)} {y : W} {k : Key} (e1 : h[n]? = some (.dk kvs)) (e2 : keyW y = some k) (q : Q (.bl (k0 (valW kvs k).isSome)) h) : eW (dinM k0 y (.ref n) h) Q X := by with_unfolding_all exact x_kdin e1 e2 q
theorem u_int_b {b : Bool} (q : Q (.int (if b then 1 else 0)) h) : eW (intM [.bl b] h) Q X := by with_unfolding_all exact w_int_b q
theorem u_int_i {i : Int} (q : Q (.int i) h) : eW (intM [.int i] h) Q X := by with_unfolding_all exact w_int_i q
theorem u_listL {w : W} {ws : List W} (e1 : seqLT h w = some ws) (q : Q (.ref h.length) (h ++ [.lst ws])) : eW (listM [w] h) Q X := by with_unfolding_all exact w_listL e1 q
theorem u_lstR (a : eW (ml e h) (fun ws h1 => ws.length ≤ sizeLine ∧ ∃ bs, Rp bs h1 ∧ ∀ r h', Rp ([(r, .lst ws)] :: bs) h' → Q (.ref r) h') X) : eW (mLst ml e h) Q X := by with_unfolding_all exact w_lstR a
theorem u_dspR {ms : List (ME W × ME W)} (a : ∃ bs, Rp bs h ∧ ∀ r h', Rp ([(r, .dk [])] :: bs) h' → eW (mPrs ms e h') (fun l h1 => ∃ bs1, Rp ([(r, .dk [])] :: bs1) h1 ∧ l.length ≤ 15 ∧ ∃ l', mergeW [] l = l' ∧ ∀ h2, Rp ([(r, .dk l')] :: bs1) h2 → Q (.ref r) h2) X) : eW (mDsp ms e h) Q X := by with_unfolding_all exact w_dspR a
theorem u_makeR {D : Addr} {n m : Nat} {F : List W → M W} {sel : List Nat} {dws : List W} (a : eW (ml e h) (fun ws h1 => eW (mk e h1) (fun zs h2 => (ws.length = n ∧ zs.length = m) ∧ ∃ bs, Rp bs h2 ∧ ∀ r h', Rp ([(r, .ins D [])] :: bs) h' → eW (F (pick sel (.ref r :: (ws ++ zs ++ dws))) h') (fun w h3 => w = .non ∧ Q (.ref r) h3) X) X) X) : eW (mMake D n m F sel dws ml mk e h) Q X := by with_unfolding_all exact w_makeR a
theorem y_fldR {Cs : List Addr} {f : Str} (a : eW (mv e h) (fun y h1 => eW (mo e h1) (fun x h2 => ∃ (bs : List Blk) (i n : Nat) (D : Addr) (fs : List (Str × W)), x = .ref n ∧ Rp bs h2 ∧ bs[i]? = some [(n, .ins D fs)] ∧ D ∈ Cs ∧ fs.length < 1000 ∧ ∃ fs', putW f y fs = fs' ∧ ∀ h3, Rp (bs.set i [(n, .ins D fs')]) h3 → N e h3) X) X) : sW (sFldM Cs f mo mv e h) N T X B C := by with_unfolding_all exact x_fldR a
theorem u_lcR {msrc : ME Src} {g : W → Ev → Option Ev} {tt : ME Bool} {te : ME W} {vs : List Nat} (a : eW (msrc e h) (fun s h1 => ∃ bs, Rp bs h1 ∧ ∀ r h', Rp ([(r, .lst [])] :: bs) h' → eW (lcL s.ok g tt te r (wipeE e vs) s.ws h') Q X) X) : eW (mLc msrc g tt te vs e h) Q X := by with_unfolding_all exact w_lcR a
theorem u_lcN {ok : Hv → Prop} {g : W → Ev → Option Ev} {tt : ME Bool} {te : ME W} {D : Nat} (o : ok h) (q : Q (.ref D) h) : eW (lcL ok g tt te D e [] h) Q X := by with_unfolding_all exact w_lcN o q
theorem u_lcC {ok : Hv → Prop} {g : W → Ev → Option Ev} {tt : ME Bool} {te : ME W} {D : Nat} {w : W} {r : List W} {e1 : Ev} (o : ok h) (eg : g w e = some e1)
    (b : eW (tt e1 h) (fun b h1 => (b = true → eW (te e1 h1) (fun y h2 => ∃ (bs : List Blk) (i : Nat) (acc : List W), Rp bs h2 ∧ bs[i]? = some [(D, .lst acc)] ∧ acc.length < sizeLine ∧ ∀ h3, Rp (bs.set i [(D, .lst (acc ++ [y]))]) h3 → eW (lcL ok g tt te D e r h3) Q X) nX) ∧ (b = false → eW (lcL ok g tt te D e r h1) Q X)) nX) : eW (lcL ok g tt te D e (w :: r) h) Q X := by with_unfolding_all exact w_lcC o eg b
theorem y_forU {msrc : ME Src} {g : W → MS} {mb : MS} (a : eW (msrc e h) (fun s h1 => sW (loopL s.ok g mb s.ws e h1) N T X B C) X) : sW (sFor msrc g mb e h) N T X B C := by with_unfolding_all exact x_forU a
theorem y_lpN {ok : Hv → Prop} {g : W → MS} {mb : MS} (o : ok h) (q : N e h) : sW (loopL ok g mb [] e h) N T X B C := by with_unfolding_all exact x_lpN o q
theorem y_lpC {ok : Hv → Prop} {g : W → MS} {mb : MS} {w : W} {r : List W} (o : ok h) (b : sW (g w e h) (fun e1 h1 => sW (mb e1 h1) (fun e2 h2 => sW (loopL ok g mb r e2 h2) N T X B C) T X N (fun e2 h2 => sW (loopL ok g mb r e2 h2) N T X B C)) nT nX nE nE) : sW (loopL ok g mb (w :: r) e h) N T X B C := by with_unfolding_all exact x_lpC o b
theorem u_catLR {a b : Nat} {xs ys : List W} {bs : List Blk} (e1 : h[a]? = some (.lst xs)) (e2 : h[b]? = some (.lst ys)) (c : Nat.ble (xs.length + ys.length) 64 = true) {zs : List W} (e3 : xs ++ ys = zs) (H : Rp bs h) (q : ∀ r h', Rp ([(r, .lst zs)] :: bs) h' → Q (.ref r) h') : eW (addM (.ref a) (.ref b) h) Q X := by with_unfolding_all exact w_catLR e1 e2 c e3 H q
theorem u_slLR {n : Nat} {ws : List W} {l u : Option Int} {bs : List Blk} (e1 : h[n]? = some (.lst ws)) {zs : List W} (ec : cutW ws l u = zs) (H : Rp bs h) (q : ∀ r h', Rp ([(r, .lst zs)] :: bs) h' → Q (.ref r) h') : eW (slM (.ref n) l u h) Q X := by with_unfolding_all exact w_slLR e1 ec H q
theorem u_slT {ws : List W} {l u : Option Int} (q : Q (.tup (cutW ws l u)) h) : eW (slM (.tup ws) l u h) Q X := by with_unfolding_all exact w_slT q
theorem u_listLR {w : W} {ws : List W} {bs : List Blk} (e1 : seqLT h w = some ws) (H : Rp bs h) (q : ∀ r h', Rp ([(r, .lst ws)] :: bs) h' → Q (.ref r) h') : eW (listM [w] h) Q X := by with_unfolding_all exact w_listLR e1 H q
theorem u_appendR {bs : List Blk} {n : Nat} {ws : List W} {w : W} (H : Rp bs h) (i : Nat) (e1 : bs[i]? = some [(n, .lst ws)]) (c : Nat.ble ws.length 64 = true) {ws' : List W} {bs' : List Blk} (e3 : ws ++ [w] = ws') (e4 : bs.set i [(n, .lst ws')] = bs') (q : ∀ h', Rp bs' h' → Q .non h') : eW (appendM (.ref n) [w] h) Q X := by with_unfolding_all exact w_appendR H i e1 c e3 e4 q
theorem u_mbL {g : W → List W → M W} {mo : ME W} {me : ME (List W)} (a : eW (mo e h) (fun x h1 => ∃ n l, x = .ref n ∧ h1[n]? = some (.lst l) ∧ eW (me e h1) (fun ws h2 => eW (g x ws h2) Q X) X) X) : eW (mMb .lst g mo me e h) Q X := by with_unfolding_all exact w_mbL a
theorem u_B {b : Bool} (q : QB b h) : eW (mB b e h) QB X := by with_unfolding_all exact w_B q
theorem u_mulP {i j : Int} (c : -1000000000000000 ≤ j) (c2 : j ≤ 1000000000000000) (q : Q (.int (i * j)) h) : eW (mulM (.int i) (.int j) h) Q X := by with_unfolding_all exact w_mulP c c2 q
theorem u_mulQ {i j : Int} (c : -1000000000000000 ≤ i) (c2 : i ≤ 1000000000000000) (q : Q (.int (i * j)) h) : eW (mulM (.int i) (.int j) h) Q X := by with_unfolding_all exact w_mulQ c c2 q
theorem u_powP {i j : Int} (c : 0 ≤ j) (c1 : j ≤ 1000000) (c2 : -1000000000000000 ≤ i) (c3 : i ≤ 1000000000000000) (q : Q (.int (i ^ j.toNat)) h) : eW (powM (.int i) (.int j) h) Q X := by with_unfolding_all exact w_powP c c1 c2 c3 q
theorem u_allL {n : Nat} {ws : List W} {bs : List Bool} (e1 : h[n]? = some (.lst ws)) (e2 : asBs ws = some bs) (q : Q (.bl (bs.all id)) h) : eW (allM [.ref n] h) Q X := by with_unfolding_all exact w_allL e1 e2 q
theorem u_anyL {n : Nat} {ws : List W} {bs : List Bool} (e1 : h[n]? = some (.lst ws)) (e2 : asBs ws = some bs) (q : Q (.bl (bs.any id)) h) : eW (anyM [.ref n] h) Q X := by with_unfolding_all exact w_anyL e1 e2 q
theorem u_chainLL {ma mb mc : ME W} (a : eW (ma e h) (fun x h1 => eW (mb e h1) (fun y h2 => eW (mc e h2) (fun z h3 => ∃ i j k : Int, x = .int i ∧ y = .int j ∧ z = .int k ∧ h3 = h2 ∧ Q (.bl (decide (i ≤ j) && decide (j ≤ k))) h2) nX) X) X) : eW (mChain leM leM ma mb mc e h) Q X := by with_unfolding_all exact w_chainLL a
theorem u_andVP {ma mb : ME W} (a : eW (ma e h) (fun w h1 => ∃ b, w = .bl b ∧ ∃ b2, (b = true → eW (mb e h1) (fun w2 h2 => w2 = .bl b2 ∧ h2 = h1) nX) ∧ Q (.bl (b && b2)) h1) X) : eW (mAndV ma mb e h) Q X := by with_unfolding_all exact w_andVP a
theorem u_orVP {ma mb : ME W} (a : eW (ma e h) (fun w h1 => ∃ b, w = .bl b ∧ ∃ b2, (b = false → eW (mb e h1) (fun w2 h2 => w2 = .bl b2 ∧ h2 = h1) nX) ∧ Q (.bl (b || b2)) h1) X) : eW (mOrV ma mb e h) Q X := by with_unfolding_all exact w_orVP a
theorem i_andp_go {b b2 : Bool} {r : Rs W} {h1 : Hv} {P : Bool → Prop} (t : b = true → eW r (fun w2 h2 => w2 = .bl b2 ∧ h2 = h1) nX) (q : P b2) : ∃ b2, (b = true → eW r (fun w2 h2 => w2 = .bl b2 ∧ h2 = h1) nX) ∧ P b2 := by with_unfolding_all exact andp_go t q
theorem i_orp_go {b b2 : Bool} {r : Rs W} {h1 : Hv} {P : Bool → Prop} (t : b = false → eW r (fun w2 h2 => w2 = .bl b2 ∧ h2 = h1) nX) (q : P b2) : ∃ b2, (b = false → eW r (fun w2 h2 => w2 = .bl b2 ∧ h2 = h1) nX) ∧ P b2 := by with_unfolding_all exact orp_go t q
theorem u_andTP {mt mt' : ME Bool} (a : eW (mt e h) (fun b h1 => ∃ b2, (b = true → eW (mt' e h1) (fun w2 h2 => w2 = b2 ∧ h2 = h1) nX) ∧ QB (b && b2) h1) X) : eW (mAndT mt mt' e h) QB X := by with_unfolding_all exact w_andTP a
theorem u_orTP {mt mt' : ME Bool} (a : eW (mt e h) (fun b h1 => ∃ b2, (b = false → eW (mt' e h1) (fun w2 h2 => w2 = b2 ∧ h2 = h1) nX) ∧ QB (b || b2) h1) X) : eW (mOrT mt mt' e h) QB X := by with_unfolding_all exact w_orTP a
theorem i_andtp_go {b b2 : Bool} {r : Rs Bool} {h1 : Hv} {P : Bool → Prop} (t : b = true → eW r (fun w2 h2 => w2 = b2 ∧ h2 = h1) nX) (q : P b2) : ∃ b2, (b = true → eW r (fun w2 h2 => w2 = b2 ∧ h2 = h1) nX) ∧ P b2 := by with_unfolding_all exact andtp_go t q
theorem i_ortp_go {b b2 : Bool} {r : Rs Bool} {h1 : Hv} {P : Bool → Prop} (t : b = false → eW r (fun w2 h2 => w2 = b2 ∧ h2 = h1) nX) (q : P b2) : ∃ b2, (b = false → eW r (fun w2 h2 => w2 = b2 ∧ h2 = h1) nX) ∧ P b2 := by with_unfolding_all exact ortp_go t q
theorem y_forI {g : W → MS} {mb : MS} (Inv : Nat → Ev → Hv → Prop)
    (a : eW (ml e h) (fun ws h1 => ∃ j : Int, ws = [.int j] ∧ (-4611686018427387904 ≤ j ∧ j < 4611686018427387904) ∧ Inv 0 e h1 ∧
      (∀ (i : Nat) e h, (i : Int) < j → Inv i e h → sW (g (.int i) e h) (fun e1 h1 => sW (mb e1 h1) (Inv (i + 1)) T X N (Inv (i + 1))) nT nX nE nE) ∧ ∀ e h, Inv j.toNat e h → N e h) X) : sW (sFor (mRg1 ml) g mb e h) N T X B C := by with_unfolding_all exact x_forI Inv a
theorem y_forS {msrc : ME Src} {g : W → MS} {mb : MS} (a : eW (msrc e h) (fun s h1 => ∃ Inv : Nat → Ev → Hv → Prop, Inv 0 e h1 ∧ (∀ i w e h, s.ws[i]? = some w → Inv i e h → s.ok h ∧ sW (g w e h) (fun e1 h1 => sW (mb e1 h1) (Inv (i + 1)) T X N (Inv (i + 1))) nT nX nE nE) ∧ ∀ e h, Inv s.ws.length e h → s.ok h ∧ N e h) X) : sW (sFor msrc g mb e h) N T X B C := by with_unfolding_all exact x_forS a
end
section
variable {e : Ev} {h : Hv} {Q : W → Hv → Prop} {X : XH} {C D : Addr} {n : Nat} {fs : List (Str × W)} {g1 g2 : W → W → M W} {c1 c2 F : List W → M W} {y : W}
theorem u_owT (e : h[n]? = some (.ins C fs)) (q : eW (g1 (.ref n) y h) Q X) : eW (orM C g1 g2 (.ref n) y h) Q X := by with_unfolding_all exact w_owT e q
theorem u_owF (e : h[n]? = some (.ins D fs)) (ne : D ≠ C) (q : eW (g2 (.ref n) y h) Q X) : eW (orM C g1 g2 (.ref n) y h) Q X := by with_unfolding_all exact w_owF e ne q
theorem u_ocT (e : h[n]? = some (.ins C fs)) (q : eW (c1 [.ref n] h) Q X) : eW (orC C c1 c2 [.ref n] h) Q X := by with_unfolding_all exact w_ocT e q
theorem u_ocF (e : h[n]? = some (.ins D fs)) (ne : D ≠ C) (q : eW (c2 [.ref n] h) Q X) : eW (orC C c1 c2 [.ref n] h) Q X := by with_unfolding_all exact w_ocF e ne q
theorem u_own {k0 : Bool → Bool} {tl : List Value} {t : Value} (e : h[n]? = some (.ins C fs)) (et : tyW h y = some t) (m : t ∈ tl) (q : eW (F [.ref n, y] h) (fun v h' => ∃ b, v = .bl b ∧ Q (.bl (k0 b)) h') nX) : eW (ownM k0 C tl F (.ref n) y h) Q X := by with_unfolding_all exact w_own e et m q
theorem u_reprOwn (e : h[n]? = some (.ins C fs)) (q : eW (F [.ref n] h) (fun v h' => ∃ z, v = .str z ∧ Q (.str z) h') nX) : eW (reprOwnM C F [.ref n] h) Q X := by with_unfolding_all exact w_reprOwn e q
theorem u_inOwn {k m : Nat} (e : h[n]? = some (.ins C fs)) (el : h[k]? = some (.lst [.non, .ref m])) (q : eW (F [.ref n, .non] h) (fun v h' => ∃ b, v = .bl b ∧ (b = true → Q (.bl true) h') ∧ (b = false → h'[k]? = some (.lst [.non, .ref m]) ∧ (m = n → Q (.bl true) h') ∧ (m ≠ n → (∃ fs, h'[m]? = some (.ins C fs)) ∧ (∃ fs, h'[n]? = some (.ins C fs)) ∧ eW (F [.ref m, .ref n] h') (fun v h2 => ∃ b, v = .bl b ∧ (b = true → Q (.bl true) h2) ∧ (b = false → h2[k]? = some (.lst [.non, .ref m]) ∧ Q (.bl false) h2)) nX))) nX) : eW (inOwnM C F (.ref n) (.ref k) h) Q X := by with_unfolding_all exact w_inOwn e el q
theorem u_fmtI {m : ME W} (a : eW (m e h) (fun w h1 => ∃ i, w = .int i ∧ i.natAbs.log2 < 1920 ∧ Q (.str (toString i)) h1) X) : eW (mFmt m e h) Q X := by with_unfolding_all exact w_fmtI a
theorem u_jsN {acc : Str} (q : Q (.str acc) h) : eW (mJs [] acc e h) Q X := by with_unfolding_all exact w_jsN q
theorem u_jsC {m : ME W} {ms : List (ME W)} {acc : Str} (a : eW (m e h) (fun w h1 => ∃ y, w = .str y ∧ (acc ++ y).length ≤ sizeLine ∧ eW (mJs ms (acc ++ y) e h1) Q X) X) : eW (mJs (m :: ms) acc e h) Q X := by with_unfolding_all exact w_jsC a
theorem u_jsK {m : ME W} {ms : List (ME W)} {acc : Str} {k : Nat} (c : acc.length ≤ k) (hk : Nat.ble k 1000 = true) (a : eW (m e h) (fun w h1 => ∃ y, w = .str y ∧ y.length ≤ 16 ∧ ∀ acc' : Str, acc'.length ≤ k + 16 → eW (mJs ms acc' e h1) Q X) X) : eW (mJs (m :: ms) acc e h) Q X := by with_unfolding_all exact w_jsK c hk a
end
theorem u_tuple {h : Hv} {Q : W → Hv → Prop} {X : XH} {w : W} {ws : List W} (e1 : seqLT h w = some ws) (q : Q (.tup ws) h) : eW (tupleM [w] h) Q X := by with_unfolding_all exact w_tuple e1 q
theorem u_rg2s {ml : ME (List W)} {e : Ev} {h : Hv} {QS : Src → Hv → Prop} {X : XH} (a : eW (ml e h) (fun ws h1 => ∃ i j : Int, ws = [.int i, .int j] ∧ (-1000000 ≤ i ∧ i ≤ 1000000 ∧ -1000000 ≤ j ∧ j ≤ 1000000) ∧ QS ⟨fun _ => True, intsFrom i (j - i).toNat⟩ h1) X) : eW (mRg2 ml e h) QS X := by with_unfolding_all exact w_rg2s a
end Z
/-! What a suite answers does not hang on where the exception stands; the rules of try and raise. -/
namespace Z
open PySem L2
section
variable {α β : Type} {i : Nat} {x y : Option W}
def IE (i : Nat) (x y : Option W) (m m' : ME α) : Prop := ∀ (e : Ev) (h : Hv), m (e.set i x) h = m' (e.set i y) h
def reE (i : Nat) (x : Option W) : Option (Except AX Fl × Ev × Hv) → Option (Except AX Fl × Ev × Hv)
  | some (f, e, h) => some (f, e.set i x, h)
  | none => none
def IS (i : Nat) (x y : Option W) (m m' : MS) : Prop := ∀ (e : Ev) (h : Hv), ∃ r, m (e.set i x) h = reE i x r ∧ m' (e.set i y) h = reE i y r
def IG (i : Nat) (x y : Option W) (g : W → Ev → Option Ev) : Prop := ∀ w (e : Ev), g w (e.set i x) = (g w e).map (·.set i x) ∧ g w (e.set i y) = (g w e).map (·.set i y)
def IGs (i : Nat) (x y : Option W) (g : List W → Ev → Option Ev) : Prop := ∀ w (e : Ev), g w (e.set i x) = (g w e).map (·.set i x) ∧ g w (e.set i y) = (g w e).map (·.set i y)
theorem ie_k {r : M α} : IE i x y (fun _ => r) (fun _ => r) := fun _ _ => rfl
theorem ie_b {m m' : ME α} {k k' : α → ME β} (a : IE i x y m m') (b : ∀ z, IE i x y (k z) (k' z)) : IE i x y (bE m k) (bE m' k') := fun e h => by
  show bnd (m (e.set i x)) (fun z => k z (e.set i x)) h = bnd (m' (e.set i y)) (fun z => k' z (e.set i y)) h
  unfold bnd
  rw [a e h]
  cases m' (e.set i y) h with
  | none => rfl
  | some q =>
    obtain ⟨r, h1⟩ := q
    cases r with
    | error _ => rfl
    | ok z => exact b z e h1
theorem ie_var {j : Nat} (n : i ≠ j) : IE i x y (mVar j) (mVar j) := fun e h => by
  unfold mVar
  rw [List.getElem?_set_ne n, List.getElem?_set_ne n]
theorem ie_c {w : W} : IE i x y (mC w) (mC w) := ie_k
theorem ie_nil : IE i x y mNil mNil := ie_k
theorem ie_cons {m m' : ME W} {k k' : ME (List W)} (a : IE i x y m m') (b : IE i x y k k') : IE i x y (mCons m k) (mCons m' k') := ie_b a fun _ => ie_b b fun _ => ie_k
theorem ie_tup {m m' : ME (List W)} (a : IE i x y m m') : IE i x y (mTup m) (mTup m') := ie_b a fun _ => ie_k
theorem ie_lst {m m' : ME (List W)} (a : IE i x y m m') : IE i x y (mLst m) (mLst m') := ie_b a fun _ => ie_k
theorem ie_G {g : List W → M W} {m m' : ME (List W)} (a : IE i x y m m') : IE i x y (mG g m) (mG g m') := ie_b a fun _ => ie_k
theorem ie_F {n : Nat} {F : List W → M W} {m m' : ME (List W)} (a : IE i x y m m') : IE i x y (mF n F m) (mF n F m') := ie_b a fun _ => ie_k
theorem ie_b2 {g : W → W → M W} {m m' k k' : ME W} (a : IE i x y m m') (b : IE i x y k k') : IE i x y (mB2 g m k) (mB2 g m' k') := ie_b a fun _ => ie_b b fun _ => ie_k
theorem ie_test {m m' : ME W} (a : IE i x y m m') : IE i x y (mTest m) (mTest m') := ie_b a fun _ => ie_k
theorem ie_notT {m m' : ME Bool} (a : IE i x y m m') : IE i x y (mNotT m) (mNotT m') := ie_b a fun _ => ie_k
theorem ie_notV {m m' : ME W} (a : IE i x y m m') : IE i x y (mNotV m) (mNotV m') := ie_b a fun _ => ie_k
theorem ie_mB {b : Bool} : IE i x y (mB b) (mB b) := ie_k
theorem ie_andT {m m' k k' : ME Bool} (a : IE i x y m m') (b : IE i x y k k') : IE i x y (mAndT m k) (mAndT m' k') := ie_b a fun z => by
  cases z with
  | true => exact b
  | false => exact ie_k
theorem ie_orT {m m' k k' : ME Bool} (a : IE i x y m m') (b : IE i x y k k') : IE i x y (mOrT m k) (mOrT m' k') := ie_b a fun z => by
  cases z with
  | true => exact ie_k
  | false => exact b
theorem ie_andV {m m' k k' : ME W} (a : IE i x y m m') (b : IE i x y k k') : IE i x y (mAndV m k) (mAndV m' k') := ie_b a fun z => by
  cases z with
  | bl c => cases c with
    | true => exact b
    | false => exact ie_k
  | _ => exact ie_k
theorem ie_orV {m m' k k' : ME W} (a : IE i x y m m') (b : IE i x y k k') : IE i x y (mOrV m k) (mOrV m' k') := ie_b a fun z => by
  cases z with
  | bl c => cases c with
    | true => exact ie_k
    | false => exact b
  | _ => exact ie_k
theorem ie_if {t t' : ME Bool} {m m' k k' : ME α} (c : IE i x y t t') (a : IE i x y m m') (b : IE i x y k k') : IE i x y (mIf t m k) (mIf t' m' k') := ie_b c fun z => by
  cases z with
  | true => exact a
  | false => exact b
theorem ie_itL {m m' : ME W} (a : IE i x y m m') : IE i x y (mItL m) (mItL m') := ie_b a fun _ => ie_k
/-- a def told the exception -/
theorem ie_exn {n : Nat} {F F' : List W → M W} {w w' : W} (hf : ∀ h, F [w] h = F' [w'] h) : IE i (some w) (some w') (mF n F (mCons (mVar i) mNil)) (mF n F' (mCons (mVar i) mNil)) := fun e h => by
  by_cases hi : i < e.length
  · have e1 : (e.set i (some w))[i]? = some (some w) := by rw [List.getElem?_set_self hi]
    have e2 : (e.set i (some w'))[i]? = some (some w') := by rw [List.getElem?_set_self hi]
    have g1 : mCons (mVar i) mNil (e.set i (some w)) h = some (.ok [w], h) := by
      show bnd (mVar i (e.set i (some w))) _ h = _
      unfold bnd mVar; simp only [e1]; rfl
    have g2 : mCons (mVar i) mNil (e.set i (some w')) h = some (.ok [w'], h) := by
      show bnd (mVar i (e.set i (some w'))) _ h = _
      unfold bnd mVar; simp only [e2]; rfl
    show bnd (mCons (mVar i) mNil (e.set i (some w))) (fun ws h => if ws.length = n then F ws h else none) h = bnd (mCons (mVar i) mNil (e.set i (some w'))) (fun ws h => if ws.length = n then F' ws h else none) h
    unfold bnd
    rw [g1, g2]
    show (if [w].length = n then F [w] h else none) = if [w'].length = n then F' [w'] h else none
    by_cases c : [w].length = n
    · rw [if_pos c, if_pos (show [w'].length = n from c)]; exact hf h
    · rw [if_neg c, if_neg (show ¬ [w'].length = n from c)]
  · have g : ∀ z : W, mCons (mVar i) mNil (e.set i (some z)) h = none := fun z => by
      show bnd (mVar i (e.set i (some z))) _ h = _
      unfold bnd mVar
      rw [List.getElem?_eq_none (by simpa using hi)]
    show bnd (mCons (mVar i) mNil (e.set i (some w))) (fun ws h => if ws.length = n then F ws h else none) h = bnd (mCons (mVar i) mNil (e.set i (some w'))) (fun ws h => if ws.length = n then F' ws h else none) h
    unfold bnd
    rw [g, g]
/-- isinstance of the exception -/
theorem ie_is {isi : Value → Value → Option Bool} {a a' D : Addr} {c : W} : IE i (some (.gl a)) (some (.gl a')) (mG (isEM isi a D) (mCons (mVar i) (mCons (mC c) mNil))) (mG (isEM isi a' D) (mCons (mVar i) (mCons (mC c) mNil))) := fun e h => by
  have key : isEM isi a D [.gl a, c] h = isEM isi a' D [.gl a', c] h := by
    unfold isEM two
    simp only
    cases clsW c with
    | none => rfl
    | some u => simp only [if_true]
  by_cases hi : i < e.length
  · have g1 : ∀ z : W, mCons (mVar i) (mCons (mC c) mNil) (e.set i (some z)) h = some (.ok [z, c], h) := fun z => by
      show bnd (mVar i (e.set i (some z))) _ h = _
      unfold bnd mVar; simp only [List.getElem?_set_self hi]; rfl
    show bnd (mCons (mVar i) (mCons (mC c) mNil) (e.set i (some (.gl a)))) (fun ws => isEM isi a D ws) h = bnd (mCons (mVar i) (mCons (mC c) mNil) (e.set i (some (.gl a')))) (fun ws => isEM isi a' D ws) h
    unfold bnd
    rw [g1, g1]
    exact key
  · have g : ∀ z : W, mCons (mVar i) (mCons (mC c) mNil) (e.set i (some z)) h = none := fun z => by
      show bnd (mVar i (e.set i (some z))) _ h = _
      unfold bnd mVar
      rw [List.getElem?_eq_none (by simpa using hi)]
    show bnd (mCons (mVar i) (mCons (mC c) mNil) (e.set i (some (.gl a)))) (fun ws => isEM isi a D ws) h = bnd (mCons (mVar i) (mCons (mC c) mNil) (e.set i (some (.gl a')))) (fun ws => isEM isi a' D ws) h
    unfold bnd
    rw [g, g]
/-! ### comprehensions -/
theorem set_comm' {e : Ev} {j : Nat} {u v : Option W} (n : i ≠ j) : (e.set i u).set j v = (e.set j v).set i u := List.set_comm _ _ n
theorem wipe_set {e : Ev} {u : Option W} : ∀ {vs : List Nat}, (∀ v ∈ vs, i ≠ v) → wipeE (e.set i u) vs = (wipeE e vs).set i u
  | [], _ => rfl
  | v :: vs, n => by
    show (wipeE (e.set i u) vs).set v none = ((wipeE e vs).set v none).set i u
    rw [wipe_set fun v hv => n v (List.mem_cons_of_mem _ hv), set_comm' (n v (by simp))]
theorem ig_nm {j : Nat} (n : i ≠ j) : IG i x y (bNm j) := fun w e => ⟨congrArg some (set_comm' n), congrArg some (set_comm' n)⟩
theorem ig_nil : IGs i x y bNil := fun w e => by
  cases w with
  | nil => exact ⟨rfl, rfl⟩
  | cons _ _ => exact ⟨rfl, rfl⟩
theorem ig_cons {g : W → Ev → Option Ev} {k : List W → Ev → Option Ev} (a : IG i x y g) (b : IGs i x y k) : IGs i x y (bCons g k) := fun w e => by
  cases w with
  | nil => exact ⟨rfl, rfl⟩
  | cons w r =>
    show (g w (e.set i x)).bind (k r) = ((g w e).bind (k r)).map _ ∧ (g w (e.set i y)).bind (k r) = ((g w e).bind (k r)).map _
    rw [(a w e).1, (a w e).2]
    cases g w e with
    | none => exact ⟨rfl, rfl⟩
    | some e1 => exact b r e1
theorem ig_tp {n : Nat} {g : List W → Ev → Option Ev} (a : IGs i x y g) : IG i x y (bTp n g) := fun w e => by
  unfold bTp
  cases asT w with
  | none => exact ⟨rfl, rfl⟩
  | some ws =>
    by_cases c : ws.length = n
    · simp only [if_pos c]; exact a ws e
    · simp only [if_neg c]; exact ⟨rfl, rfl⟩
theorem ie_lcL {ok : Hv → Prop} {g : W → Ev → Option Ev} {tt tt' : ME Bool} {te te' : ME W} (a : IG i x y g) (b : IE i x y tt tt') (c : IE i x y te te') {D : Nat} {e : Ev} : ∀ (ws : List W) (h : Hv), lcL ok g tt te D (e.set i x) ws h = lcL ok g tt' te' D (e.set i y) ws h
  | [], h => rfl
  | w :: r, h => by
    unfold lcL
    rw [(a w e).1, (a w e).2]
    cases g w e with
    | none => rfl
    | some e1 =>
      simp only [Option.map_some, b e1 h]
      congr 1
      match tt' (e1.set i y) h with
      | none => rfl
      | some (.error _, _) => rfl
      | some (.ok false, h1) => exact ie_lcL a b c r h1
      | some (.ok true, h1) =>
        simp only [c e1 h1]
        match te' (e1.set i y) h1 with
        | none => rfl
        | some (.error _, _) => rfl
        | some (.ok z, h2) =>
          simp only
          cases lstAt h2 D with
          | none => rfl
          | some acc =>
            simp only
            by_cases q : acc.length < sizeLine
            · simp only [if_pos q]; exact ie_lcL a b c r _
            · simp only [if_neg q]
theorem ie_lc {ml ml' : ME Src} {g : W → Ev → Option Ev} {tt tt' : ME Bool} {te te' : ME W} {vs : List Nat} (s : IE i x y ml ml') (a : IG i x y g) (b : IE i x y tt tt') (c : IE i x y te te') (n : ∀ v ∈ vs, i ≠ v) : IE i x y (mLc ml g tt te vs) (mLc ml' g tt' te' vs) := ie_b s fun z e h => by
  show lcL z.ok g tt te h.length (wipeE (e.set i x) vs) z.ws (h ++ [.lst []]) = lcL z.ok g tt' te' h.length (wipeE (e.set i y) vs) z.ws (h ++ [.lst []])
  rw [wipe_set n, wipe_set n]
  exact ie_lcL a b c _ _
/-! ### statements -/
theorem is_eS {m m' : ME α} {k k' : α → MS} (a : IE i x y m m') (b : ∀ z, IS i x y (k z) (k' z)) : IS i x y (eS m k) (eS m' k') := fun e h => by
  unfold eS
  rw [a e h]
  match m' (e.set i y) h with
  | none => exact ⟨none, rfl, rfl⟩
  | some (.error z, h1) => exact ⟨some (.error z, e, h1), rfl, rfl⟩
  | some (.ok z, h1) => exact b z e h1
theorem is_seq {m m' k k' : MS} (a : IS i x y m m') (b : IS i x y k k') : IS i x y (sSeq m k) (sSeq m' k') := fun e h => by
  obtain ⟨r, e1, e2⟩ := a e h
  unfold sSeq
  rw [e1, e2]
  match r with
  | none => exact ⟨none, rfl, rfl⟩
  | some (.ok .nx, e3, h3) => exact b e3 h3
  | some (.ok .bk, e3, h3) => exact ⟨some (.ok .bk, e3, h3), rfl, rfl⟩
  | some (.ok .ct, e3, h3) => exact ⟨some (.ok .ct, e3, h3), rfl, rfl⟩
  | some (.ok (.rt w), e3, h3) => exact ⟨some (.ok (.rt w), e3, h3), rfl, rfl⟩
  | some (.error z, e3, h3) => exact ⟨some (.error z, e3, h3), rfl, rfl⟩
theorem is_nx : IS i x y sNx sNx := fun e h => ⟨some (.ok .nx, e, h), rfl, rfl⟩
theorem is_rt {w : W} : IS i x y (sRt w) (sRt w) := fun e h => ⟨some (.ok (.rt w), e, h), rfl, rfl⟩
theorem is_nm {j : Nat} {w : W} (n : i ≠ j) : IS i x y (gNm j w) (gNm j w) := fun e h => ⟨some (.ok .nx, e.set j (some w), h), by
  show some (Except.ok Fl.nx, (e.set i x).set j (some w), h) = some (.ok .nx, (e.set j (some w)).set i x, h)
  rw [set_comm' n], by
  show some (Except.ok Fl.nx, (e.set i y).set j (some w), h) = some (.ok .nx, (e.set j (some w)).set i y, h)
  rw [set_comm' n]⟩
theorem is_asg {m m' : ME W} {j : Nat} (a : IE i x y m m') (n : i ≠ j) : IS i x y (sAsg m (gNm j)) (sAsg m' (gNm j)) := is_eS a fun _ => is_nm n
theorem is_ret {m m' : ME W} (a : IE i x y m m') : IS i x y (sRet m) (sRet m') := is_eS a fun _ => is_rt
theorem is_exp {m m' : ME W} (a : IE i x y m m') : IS i x y (sExp m) (sExp m') := is_eS a fun _ => is_nx
theorem is_if {t t' : ME Bool} {m m' k k' : MS} (c : IE i x y t t') (a : IS i x y m m') (b : IS i x y k k') : IS i x y (sIf t m k) (sIf t' m' k') := is_eS c fun z => by
  cases z with
  | true => exact a
  | false => exact b
end
theorem ind_runB {n : Nat} {m m' : MS} {w w' : W} (a : IS 0 (some w) (some w') m m') (h : Hv) : runB n m [w] h = runB n m' [w'] h := by
  unfold runB
  obtain ⟨r, e1, e2⟩ := a (none :: List.replicate (n - 1) none) h
  have g1 : m ([w].map some ++ List.replicate (n - [w].length) none) h = reE 0 (some w) r := e1
  have g2 : m' ([w'].map some ++ List.replicate (n - [w'].length) none) h = reE 0 (some w') r := e2
  rw [g1, g2]
  match r with
  | none => rfl
  | some (.ok .nx, e3, h3) => rfl
  | some (.ok .bk, e3, h3) => rfl
  | some (.ok .ct, e3, h3) => rfl
  | some (.ok (.rt w), e3, h3) => rfl
  | some (.error z, e3, h3) => rfl
theorem era_re {i : Nat} {x : Option W} : ∀ (r : Option (Except AX Fl × Ev × Hv)), eraS i (reE i x r) = eraS i r
  | none => rfl
  | some (.ok f, e, h) => by show some (Except.ok f, (e.set i x).set i none, h) = some (.ok f, e.set i none, h); rw [List.set_set]
  | some (.error _, _, _) => rfl
/-! ### try, raise -/
section
variable {e : Ev} {h : Hv} {N B C : Ev → Hv → Prop} {T : W → Hv → Prop} {X : XH} {i j : Nat} {exm : Value → Option Bool} {m : ME W} {ms : Addr → Addr → MS} {QS : Src → Hv → Prop}
theorem x_raise {D : Addr} (q : X ⟨.ref D, none⟩ h) : wS (sRaise D e h) N T X B C := q
theorem w_itL (a : wE (m e h) (fun w h1 => ∃ n ws, w = .ref n ∧ h1[n]? = some (.lst ws) ∧ QS ⟨fun h' => seqL h' (.ref n) = some ws, ws⟩ h1) X) : wE (mItL m e h) QS X := wbE (a.imp fun w h1 ⟨n, ws, ew, e1, q⟩ => by
  subst ew
  unfold srcL
  simp only [seqL_of e1]
  exact q)
theorem w_isE {isi : Value → Value → Option Bool} {a D : Addr} {c : W} {u : Value} {b : Bool} {Q : W → Hv → Prop} (e1 : clsW c = some u) (e2 : isi (.ref D) u = some b) (q : Q (.bl b) h) : wE (isEM isi a D [.gl a, c] h) Q X := by
  unfold isEM two
  simp only [e1, e2, if_true]
  exact q
theorem x_tryA (a : wE (m e h) (fun w h1 => N (e.set j (some w)) h1) (fun x h1 => ∃ D, x = ⟨.ref D, none⟩ ∧ exm (.ref D) = some true ∧ (∀ a, IS i (some (.gl a)) (some (.gl 0)) (ms a D) (ms 0 D)) ∧
    wS (ms 0 D (e.set i (some (.gl 0))) h1) (fun e h => N (e.set i none) h) T nX (fun e h => B (e.set i none) h) (fun e h => C (e.set i none) h))) :
    wS (sTry i exm (sAsg m (gNm j)) ms e h) N T X B C := by
  unfold sTry
  cases hm : m e h with
  | none => rw [hm] at a; exact a.elim
  | some q =>
    obtain ⟨r, h1⟩ := q
    rw [hm] at a
    cases r with
    | ok w =>
      have eb : sAsg m (gNm j) e h = some (.ok .nx, e.set j (some w), h1) := by unfold sAsg eS; rw [hm]; rfl
      rw [eb]
      exact a
    | error x =>
      have eb : sAsg m (gNm j) e h = some (.error x, e, h1) := by unfold sAsg eS; rw [hm]
      rw [eb]
      obtain ⟨D, rfl, e2, ind, su⟩ := (show ∃ D, x = ⟨.ref D, none⟩ ∧ _ from a)
      simp only [e2]
      have hh : ∃ r, ∀ a, eraS i (ms a D (e.set i (some (.gl a))) h1) = r := ⟨eraS i (ms 0 D (e.set i (some (.gl 0))) h1), fun a => by
        obtain ⟨r, g1, g2⟩ := ind a e h1
        rw [g1, g2, era_re, era_re]⟩
      rw [dif_pos hh, ← hh.choose_spec 0]
      match hs : ms 0 D (e.set i (some (.gl 0))) h1, su with
      | some (.ok .nx, e3, h3), su => exact su
      | some (.ok .bk, e3, h3), su => exact su
      | some (.ok .ct, e3, h3), su => exact su
      | some (.ok (.rt w), e3, h3), su => exact su
theorem x_tryE (a : wE (m e h) (fun w h1 => N e h1) (fun x h1 => ∃ D, x = ⟨.ref D, none⟩ ∧ exm (.ref D) = some true ∧ (∀ a, IS i (some (.gl a)) (some (.gl 0)) (ms a D) (ms 0 D)) ∧
    wS (ms 0 D (e.set i (some (.gl 0))) h1) (fun e h => N (e.set i none) h) T nX (fun e h => B (e.set i none) h) (fun e h => C (e.set i none) h))) :
    wS (sTry i exm (sExp m) ms e h) N T X B C := by
  unfold sTry
  cases hm : m e h with
  | none => rw [hm] at a; exact a.elim
  | some q =>
    obtain ⟨r, h1⟩ := q
    rw [hm] at a
    cases r with
    | ok w =>
      have eb : sExp m e h = some (.ok .nx, e, h1) := by unfold sExp eS; rw [hm]; rfl
      rw [eb]
      exact a
    | error x =>
      have eb : sExp m e h = some (.error x, e, h1) := by unfold sExp eS; rw [hm]
      rw [eb]
      obtain ⟨D, rfl, e2, ind, su⟩ := (show ∃ D, x = ⟨.ref D, none⟩ ∧ _ from a)
      simp only [e2]
      have hh : ∃ r, ∀ a, eraS i (ms a D (e.set i (some (.gl a))) h1) = r := ⟨eraS i (ms 0 D (e.set i (some (.gl 0))) h1), fun a => by
        obtain ⟨r, g1, g2⟩ := ind a e h1
        rw [g1, g2, era_re, era_re]⟩
      rw [dif_pos hh, ← hh.choose_spec 0]
      match hs : ms 0 D (e.set i (some (.gl 0))) h1, su with
      | some (.ok .nx, e3, h3), su => exact su
      | some (.ok .bk, e3, h3), su => exact su
      | some (.ok .ct, e3, h3), su => exact su
      | some (.ok (.rt w), e3, h3), su => exact su
theorem y_raise {D : Addr} (q : X ⟨.ref D, none⟩ h) : sW (sRaise D e h) N T X B C := by with_unfolding_all exact x_raise q
theorem u_itL (a : eW (m e h) (fun w h1 => ∃ n ws, w = .ref n ∧ h1[n]? = some (.lst ws) ∧ QS ⟨fun h' => seqL h' (.ref n) = some ws, ws⟩ h1) X) : eW (mItL m e h) QS X := by with_unfolding_all exact w_itL a
theorem u_isE {isi : Value → Value → Option Bool} {a D : Addr} {c : W} {u : Value} {b : Bool} {Q : W → Hv → Prop} (e1 : clsW c = some u) (e2 : isi (.ref D) u = some b) (q : Q (.bl b) h) : eW (isEM isi a D [.gl a, c] h) Q X := by with_unfolding_all exact w_isE e1 e2 q
theorem y_tryA (a : eW (m e h) (fun w h1 => N (e.set j (some w)) h1) (fun x h1 => ∃ D, x = ⟨.ref D, none⟩ ∧ exm (.ref D) = some true ∧ (∀ a, IS i (some (.gl a)) (some (.gl 0)) (ms a D) (ms 0 D)) ∧
    sW (ms 0 D (e.set i (some (.gl 0))) h1) (fun e h => N (e.set i none) h) T nX (fun e h => B (e.set i none) h) (fun e h => C (e.set i none) h))) :
    sW (sTry i exm (sAsg m (gNm j)) ms e h) N T X B C := by with_unfolding_all exact x_tryA a
theorem y_tryE (a : eW (m e h) (fun w h1 => N e h1) (fun x h1 => ∃ D, x = ⟨.ref D, none⟩ ∧ exm (.ref D) = some true ∧ (∀ a, IS i (some (.gl a)) (some (.gl 0)) (ms a D) (ms 0 D)) ∧
    sW (ms 0 D (e.set i (some (.gl 0))) h1) (fun e h => N (e.set i none) h) T nX (fun e h => B (e.set i none) h) (fun e h => C (e.set i none) h))) :
    sW (sTry i exm (sExp m) ms e h) N T X B C := by with_unfolding_all exact x_tryE a
theorem itl_go {n : Nat} {ws : List W} {P : Nat → List W → Prop} (e1 : h[n]? = some (.lst ws)) (q : P n ws) : ∃ n' ws', W.ref n = .ref n' ∧ h[n']? = some (.lst ws') ∧ P n' ws' := ⟨_, _, rfl, e1, q⟩
end
end Z
/-! The law's own def that tells a refusal's one class, for all laws. -/
namespace Z
open PySem L2
section
variable {isi : Value → Value → Option Bool} {a D : Addr} {val : W → Bool} {e : Ev} {h : Hv}
noncomputable def prs (isi : Value → Value → Option Bool) (a D : Addr) : List (Str × W) → ME (List W)
  | [] => mNil
  | p :: l => mCons (mTup (mCons (mC (.str p.1)) (mCons (mG (isEM isi a D) (mCons (mVar 0) (mCons (mC p.2) mNil))) mNil))) (prs isi a D l)
def pw (val : W → Bool) (l : List (Str × W)) : List W := l.map fun p => .tup [.str p.1, .bl (val p.2)]
def Vals1 (isi : Value → Value → Option Bool) (D : Addr) (val : W → Bool) (l : List (Str × W)) : Prop := ∀ p ∈ l, ∃ u, clsW p.2 = some u ∧ isi (.ref D) u = some (val p.2)
theorem isE_at {c : W} {b : Bool} {Q : W → Hv → Prop} {X : XH} (h0 : e[0]? = some (some (.gl a))) (hv : ∃ u, clsW c = some u ∧ isi (.ref D) u = some b) (q : Q (.bl b) h) : wE (mG (isEM isi a D) (mCons (mVar 0) (mCons (mC c) mNil)) e h) Q X := by
  obtain ⟨u, e1, e2⟩ := hv
  exact w_G (w_cons (w_var h0 (w_cons (w_c (w_nil (w_isE e1 e2 q))))))
theorem prs_ok {X : XH} (h0 : e[0]? = some (some (.gl a))) : ∀ {l : List (Str × W)} {Q : List W → Hv → Prop}, Vals1 isi D val l → Q (pw val l) h → wE (prs isi a D l e h) Q X
  | [], Q, _, q => q
  | p :: l, Q, hv, q => by
    show wE (mCons (mTup (mCons (mC (.str p.1)) (mCons (mG (isEM isi a D) (mCons (mVar 0) (mCons (mC p.2) mNil))) mNil))) (prs isi a D l) e h) Q X
    refine w_cons (w_tup (w_cons (w_c (w_cons (isE_at h0 (hv p (by simp)) (w_nil ⟨show 2 ≤ sizeLine by decide, ?_⟩))))))
    exact prs_ok (Q := fun ws h1 => Q (.tup [.str p.1, .bl (val p.2)] :: ws) h1) h0 (fun q hq => hv q (by simp [hq])) q
theorem acc1 {i : Nat} {k : List (Str × W)} {bs : List Blk} {N B C : Ev → Hv → Prop} {T : W → Hv → Prop} {X : XH} (H : Rp bs h) (h0 : e[0]? = some (some (.gl a))) (hk : Vals1 isi D val k) (c : k.length ≤ 1000)
    (q : ∀ n h', Rp ([(n, .lst (pw val k))] :: bs) h' → N (e.set i (some (.ref n))) h') : wS (sAsg (mLst (prs isi a D k)) (gNm i) e h) N T X B C := by
  refine x_asg (w_lst (prs_ok h0 hk ⟨?_, ?_⟩))
  · have s : (1000 : Nat) ≤ sizeLine := by decide
    unfold pw; rw [List.length_map]; omega
  · exact x_nm (q _ _ H.new)
theorem acc2 {i n : Nat} {k k' : List (Str × W)} {bs : List Blk} {N B C : Ev → Hv → Prop} {T : W → Hv → Prop} {X : XH} (H : Rp ([(n, .lst (pw val k))] :: bs) h) (h0 : e[0]? = some (some (.gl a))) (hi : e[i]? = some (some (.ref n))) (hk : Vals1 isi D val k') (c : k.length + k'.length ≤ 1000)
    (q : ∀ n h', Rp ([(n, .lst (pw val (k ++ k')))] :: bs) h' → N (e.set i (some (.ref n))) h') : wS (sAsg (mB2 addM (mVar i) (mLst (prs isi a D k'))) (gNm i) e h) N T X B C := by
  have s : (1000 : Nat) ≤ sizeLine := by decide
  refine x_asg (w_b2 (w_var hi (w_lst (prs_ok h0 hk ⟨?_, ?_⟩))))
  · unfold pw; rw [List.length_map]; omega
  · have H2 : Rp ([(h.length, .lst (pw val k'))] :: [(n, .lst (pw val k))] :: bs) (h ++ [.lst (pw val k')]) := H.new
    refine w_catL (H2.at 1 rfl) (H2.at 0 rfl) ?_ (x_nm ?_)
    · unfold pw; rw [List.length_map, List.length_map]; omega
    · have e1 : pw val k ++ pw val k' = pw val (k ++ k') := by unfold pw; rw [List.map_append]
      rw [e1]
      exact q _ _ ((H2.new (o := .lst (pw val (k ++ k')))).er 2 |>.er 1)
theorem g56 {e : Ev} {s : Str} {b : Bool} : bTp 2 (bCons (bNm 5) (bCons (bNm 6) bNil)) (.tup [.str s, .bl b]) e = some ((e.set 5 (some (.str s))).set 6 (some (.bl b))) := rfl
theorem lcF {ok : Hv → Prop} {dst : Nat} {X : XH} {bs : List Blk} (hl : e.length = 7) (hok : ∀ h', Rp bs h' → ok h') : ∀ {l : List (Str × W)} {acc : List W} {h : Hv} {Q : W → Hv → Prop}, acc.length + l.length ≤ 1000 → Rp ([(dst, .lst acc)] :: bs) h →
    (∀ h', Rp ([(dst, .lst (acc ++ (l.filter fun p => val p.2).map fun p => .str p.1))] :: bs) h' → Q (.ref dst) h') → wE (lcL ok (bTp 2 (bCons (bNm 5) (bCons (bNm 6) bNil))) (mTest (mVar 6)) (mVar 5) dst e (pw val l) h) Q X
  | [], acc, h, Q, _, H, q => w_lcN (hok _ H.tl) (q _ (by simpa using H))
  | p :: l, acc, h, Q, c, H, q => by
    have s : (1000 : Nat) ≤ sizeLine := by decide
    have c : acc.length + (l.length + 1) ≤ 1000 := c
    have l6 : ((e.set 5 (some (.str p.1))).set 6 (some (.bl (val p.2))))[6]? = some (some (.bl (val p.2))) := by rw [List.getElem?_set_self]; simp [hl]
    have l5 : ((e.set 5 (some (.str p.1))).set 6 (some (.bl (val p.2))))[5]? = some (some (.str p.1)) := by rw [List.getElem?_set_ne (by decide), List.getElem?_set_self]; simp [hl]
    show wE (lcL ok (bTp 2 (bCons (bNm 5) (bCons (bNm 6) bNil))) (mTest (mVar 6)) (mVar 5) dst e (.tup [.str p.1, .bl (val p.2)] :: pw val l) h) Q X
    refine w_lcC (hok _ H.tl) g56 (w_test (w_var l6 ⟨_, rfl, fun hb => ?_, fun hb => ?_⟩))
    · refine w_var l5 ⟨_, 0, acc, H, rfl, by omega, fun h3 H3 => ?_⟩
      refine lcF hl hok (by simp; omega) H3 fun h' H' => q _ ?_
      have e1 : (List.filter (fun p => val p.2) (p :: l)) = p :: l.filter fun p => val p.2 := List.filter_cons_of_pos hb
      rw [e1]
      simpa using H'
    · refine lcF hl hok (by omega) H fun h' H' => q _ ?_
      have e1 : (List.filter (fun p => val p.2) (p :: l)) = l.filter fun p => val p.2 := List.filter_cons_of_neg (by simp [hb])
      rw [e1]
      exact H'
theorem lcB {ok : Hv → Prop} {dst : Nat} {X : XH} {bs : List Blk} (hl : e.length = 7) (hok : ∀ h', Rp bs h' → ok h') : ∀ {l : List (Str × W)} {acc : List W} {h : Hv} {Q : W → Hv → Prop}, acc.length + l.length ≤ 1000 → Rp ([(dst, .lst acc)] :: bs) h →
    (∀ h', Rp ([(dst, .lst (acc ++ l.map fun p => .bl (val p.2)))] :: bs) h' → Q (.ref dst) h') → wE (lcL ok (bTp 2 (bCons (bNm 5) (bCons (bNm 6) bNil))) (mB true) (mVar 6) dst e (pw val l) h) Q X
  | [], acc, h, Q, _, H, q => w_lcN (hok _ H.tl) (q _ (by simpa using H))
  | p :: l, acc, h, Q, c, H, q => by
    have s : (1000 : Nat) ≤ sizeLine := by decide
    have c : acc.length + (l.length + 1) ≤ 1000 := c
    have l6 : ((e.set 5 (some (.str p.1))).set 6 (some (.bl (val p.2))))[6]? = some (some (.bl (val p.2))) := by rw [List.getElem?_set_self]; simp [hl]
    show wE (lcL ok (bTp 2 (bCons (bNm 5) (bCons (bNm 6) bNil))) (mB true) (mVar 6) dst e (.tup [.str p.1, .bl (val p.2)] :: pw val l) h) Q X
    refine w_lcC (hok _ H.tl) g56 (show wE (mB true _ h) _ nX from ⟨fun hb => ?_, nofun⟩)
    refine w_var l6 ⟨_, 0, acc, H, rfl, by omega, fun h3 H3 => ?_⟩
    exact lcB hl hok (by simp; omega) H3 fun h' H' => q _ (by simpa using H')
theorem asBs_map : ∀ (l : List (Str × W)), asBs (l.map fun p => .bl (val p.2)) = some (l.map fun p => val p.2)
  | [] => rfl
  | p :: l => by
    have ih := asBs_map l
    simp only [List.map_cons]
    unfold asBs
    simp only [asB, ih]
/-- the whole reading -/
noncomputable def whM (isi : Value → Value → Option Bool) (a D : Addr) (k1 k2 k3 k4 k5 k6 k7 k8 k9 l1 l2 : List (Str × W)) (we : W) : MS :=
  sSeq (sAsg (mLst (prs isi a D k1)) (gNm 1)) (sSeq (sAsg (mB2 addM (mVar 1) (mLst (prs isi a D k2))) (gNm 1)) (sSeq (sAsg (mB2 addM (mVar 1) (mLst (prs isi a D k3))) (gNm 1)) (sSeq (sAsg (mB2 addM (mVar 1) (mLst (prs isi a D k4))) (gNm 1))
  (sSeq (sAsg (mB2 addM (mVar 1) (mLst (prs isi a D k5))) (gNm 1)) (sSeq (sAsg (mB2 addM (mVar 1) (mLst (prs isi a D k6))) (gNm 1)) (sSeq (sAsg (mB2 addM (mVar 1) (mLst (prs isi a D k7))) (gNm 1)) (sSeq (sAsg (mB2 addM (mVar 1) (mLst (prs isi a D k8))) (gNm 1))
  (sSeq (sAsg (mB2 addM (mVar 1) (mLst (prs isi a D k9))) (gNm 1)) (sSeq (sAsg (mLst (prs isi a D l1)) (gNm 2)) (sSeq (sAsg (mB2 addM (mVar 2) (mLst (prs isi a D l2))) (gNm 2))
  (sSeq (sAsg (mLc (mItL (mB2 addM (mVar 1) (mVar 2))) (bTp 2 (bCons (bNm 5) (bCons (bNm 6) bNil))) (mTest (mVar 6)) (mVar 5) [5, 6]) (gNm 3))
  (sSeq (sAsg (mG anyM (mCons (mLc (mItL (mVar 2)) (bTp 2 (bCons (bNm 5) (bCons (bNm 6) bNil))) (mB true) (mVar 6) [5, 6]) mNil)) (gNm 4))
  (sSeq (sIf (mOrT (mTest (mB2 neM (mG lenM (mCons (mVar 3) mNil)) (mC (.int 1)))) (mOrT (mTest (mB2 neM (mG (isEM isi a D) (mCons (mVar 0) (mCons (mC (.ty "LookupError")) mNil))) (mVar 4))) (mTest (mB2 eqM (mG (isEM isi a D) (mCons (mVar 0) (mCons (mC we) mNil))) (mVar 4)))))
    (sRet (mC (.str "several"))) sNx)
  (sRet (mIf (mTest (mB2 neM (mG (isEM isi a D) (mCons (mVar 0) (mCons (mC (.ty "ValueError")) mNil))) (mVar 4))) (mB2 ixA (mVar 3) (mC (.int 0))) (mC (.str "several")))))))))))))))))
theorem wh_ok {k1 k2 k3 k4 k5 k6 k7 k8 k9 l1 l2 : List (Str × W)} {we : W} {word : Str} {lk : Bool} {bs : List Blk} {Q : W → Hv → Prop} {X : XH} (H : Rp bs h) (hk : Vals1 isi D val (k1 ++ k2 ++ k3 ++ k4 ++ k5 ++ k6 ++ k7 ++ k8 ++ k9)) (hl : Vals1 isi D val (l1 ++ l2))
    (c1 : (k1 ++ k2 ++ k3 ++ k4 ++ k5 ++ k6 ++ k7 ++ k8 ++ k9).length ≤ 400) (c2 : (l1 ++ l2).length ≤ 400)
    (one : (((k1 ++ k2 ++ k3 ++ k4 ++ k5 ++ k6 ++ k7 ++ k8 ++ k9) ++ (l1 ++ l2)).filter fun p => val p.2).map (fun p => W.str p.1) = [.str word]) (hlk : ((l1 ++ l2).map fun p => val p.2).any id = lk)
    (e1 : isi (.ref D) (.type "LookupError") = some lk) (e2 : ∃ u, clsW we = some u ∧ isi (.ref D) u = some (!lk)) (e3 : isi (.ref D) (.type "ValueError") = some (!lk))
    (q : ∀ h', Rp bs h' → Q (.str word) h') : wE (runB 7 (whM isi a D k1 k2 k3 k4 k5 k6 k7 k8 k9 l1 l2 we) [.gl a] h) Q X := by
  have sb : ∀ {l l' : List (Str × W)}, Vals1 isi D val (l ++ l') → Vals1 isi D val l ∧ Vals1 isi D val l' := fun z => ⟨fun p hp => z p (by simp [hp]), fun p hp => z p (by simp [hp])⟩
  obtain ⟨v8, v9⟩ := sb hk
  obtain ⟨v7, w8⟩ := sb v8
  obtain ⟨v6, w7⟩ := sb v7
  obtain ⟨v5, w6⟩ := sb v6
  obtain ⟨v4, w5⟩ := sb v5
  obtain ⟨v3, w4⟩ := sb v4
  obtain ⟨v2, w3⟩ := sb v3
  obtain ⟨w1, w2⟩ := sb v2
  obtain ⟨y1, y2⟩ := sb hl
  simp only [List.length_append] at c1 c2
  have s : (1000 : Nat) ≤ sizeLine := by decide
  refine w_runB ?_
  show wS (whM isi a D k1 k2 k3 k4 k5 k6 k7 k8 k9 l1 l2 we [some (.gl a), none, none, none, none, none, none] h) _ _ _ _ _
  unfold whM
  refine x_seq (acc1 H rfl w1 (by omega) fun n1 h1 H1 => ?_)
  refine x_seq (acc2 H1 rfl rfl w2 (by omega) fun n2 h2 H2 => ?_)
  refine x_seq (acc2 H2 rfl rfl w3 (by simp only [List.length_append]; omega) fun n3 h3 H3 => ?_)
  refine x_seq (acc2 H3 rfl rfl w4 (by simp only [List.length_append]; omega) fun n4 h4 H4 => ?_)
  refine x_seq (acc2 H4 rfl rfl w5 (by simp only [List.length_append]; omega) fun n5 h5 H5 => ?_)
  refine x_seq (acc2 H5 rfl rfl w6 (by simp only [List.length_append]; omega) fun n6 h6 H6 => ?_)
  refine x_seq (acc2 H6 rfl rfl w7 (by simp only [List.length_append]; omega) fun n7 h7 H7 => ?_)
  refine x_seq (acc2 H7 rfl rfl w8 (by simp only [List.length_append]; omega) fun n8 h8 H8 => ?_)
  refine x_seq (acc2 H8 rfl rfl v9 (by simp only [List.length_append]; omega) fun n9 h9 H9 => ?_)
  refine x_seq (acc1 H9 rfl y1 (by omega) fun n10 h10 H10 => ?_)
  refine x_seq (acc2 H10 rfl rfl y2 (by omega) fun n11 h11 H11 => ?_)
  clear H H1 H2 H3 H4 H5 H6 H7 H8 H9 H10
  -- the words that are so
  refine x_seq (x_asg (w_lc (w_itL (w_b2 (w_var rfl (w_var rfl (w_catL (H11.at 1 rfl) (H11.at 0 rfl) ?_ ⟨_, _, rfl, at_new, ?_⟩)))))))
  · unfold pw; rw [List.length_map, List.length_map]; simp only [List.length_append]; omega
  have H12 := H11.new (o := .lst (pw val (k1 ++ k2 ++ k3 ++ k4 ++ k5 ++ k6 ++ k7 ++ k8 ++ k9) ++ pw val (l1 ++ l2)))
  have H13 := H12.new (o := .lst [])
  have ec : pw val (k1 ++ k2 ++ k3 ++ k4 ++ k5 ++ k6 ++ k7 ++ k8 ++ k9) ++ pw val (l1 ++ l2) = pw val ((k1 ++ k2 ++ k3 ++ k4 ++ k5 ++ k6 ++ k7 ++ k8 ++ k9) ++ (l1 ++ l2)) := by unfold pw; rw [← List.map_append]
  rw [ec] at H12 H13 ⊢
  refine lcF rfl (fun h' R => seqL_of (R.at 0 rfl)) (by simp only [List.length_append, List.length_nil]; omega) H13 fun h14 H14 => x_nm ?_
  rw [List.nil_append, one] at H14
  -- is it a look
  refine x_seq (x_asg (w_G (w_cons (w_lc (w_itL (w_var rfl ⟨_, _, rfl, H14.at 2 rfl, ?_⟩))))))
  have H15 := H14.new (o := .lst [])
  refine lcB rfl (fun h' R => seqL_of (R.at 2 rfl)) (by simp only [List.length_append, List.length_nil]; omega) H15 fun h16 H16 => w_nil ?_
  rw [List.nil_append] at H16
  refine w_anyL (H16.at 0 rfl) (asBs_map _) (x_nm ?_)
  rw [hlk]
  refine x_seq (x_if (w_orT (w_test (w_b2 (w_G (w_cons (w_var rfl (w_nil (w_len (seqLT_of (H16.at 1 rfl)) (w_c (w_neI ⟨_, rfl, fun _ => ?_, fun hb => ?_⟩)))))))))))
  · refine w_orT (w_test (w_b2 (isE_at rfl ⟨_, rfl, e1⟩ (w_var rfl (w_neB ⟨_, rfl, fun _ => ?_, fun hb => ?_⟩)))))
    · refine w_test (w_b2 (isE_at rfl e2 (w_var rfl (w_eqB ⟨_, rfl, fun hb => ?_, fun _ => ?_⟩))))
      · cases lk <;> simp at hb
      · refine x_nx (x_ret (w_if (w_test (w_b2 (isE_at rfl ⟨_, rfl, e3⟩ (w_var rfl (w_neB ⟨_, rfl, fun _ => ?_, fun hb => ?_⟩)))))))
        · refine w_b2 (w_var rfl (w_c (w_ixA (seqLT_of (H16.at 1 rfl)) ix0 ?_)))
          exact q _ (H16.tl.tl.tl.tl.tl)
        · cases lk <;> simp at hb
    · cases lk <;> simp at hb
  · simp at hb
end
end Z
namespace Z
open PySem L2
noncomputable def valX (tab : ITab) (D : Addr) (w : W) : Bool := match clsW w with
  | some u => (isxT tab (.ref D) u).getD false
  | none => false
theorem valX_gl {tab : ITab} {D c : Addr} {b : Bool} (h : isxT tab (.ref D) (.ref c) = some b) : valX tab D (.gl c) = b := by
  unfold valX
  simp only [show clsW (.gl c) = some (.ref c) from rfl, h, Option.getD_some]
theorem vc {tab : ITab} {D c : Addr} {b : Bool} {s : Str} {l : List (Str × W)} (h : isxT tab (.ref D) (.ref c) = some b) (r : Vals1 (isxT tab) D (valX tab D) l) : Vals1 (isxT tab) D (valX tab D) ((s, .gl c) :: l) := fun p hp => by
  rcases List.mem_cons.mp hp with rfl | hp
  · exact ⟨_, rfl, by rw [valX_gl h]; exact h⟩
  · exact r p hp
theorem vn {tab : ITab} {D : Addr} : Vals1 (isxT tab) D (valX tab D) [] := fun p hp => by cases hp
end Z
/-! Texts with their signs told: braces, join, str. -/
namespace Z
open PySem PyProof.Rows L2
section
variable {e : Ev} {h : Hv} {Q : W → Hv → Prop} {X : XH}
theorem w_jsX {m : ME W} {ms : List (ME W)} {acc : Str} {k : Nat} (c : acc.length ≤ k) (hk : Nat.ble k 1000 = true) (a : wE (m e h) (fun w h1 => ∃ y, w = .str y ∧ y.length ≤ 16 ∧ ((acc ++ y).length ≤ k + 16 → wE (mJs ms (acc ++ y) e h1) Q X)) X) : wE (mJs (m :: ms) acc e h) Q X :=
  w_jsC (a.imp fun w h1 ⟨y, ey, cy, q⟩ => by
    have := Str.length_append acc y
    have := Nat.le_of_ble_eq_true hk
    have s : (2000 : Nat) ≤ sizeLine := by decide
    exact ⟨y, ey, by omega, q (by omega)⟩)
theorem u_jsX {m : ME W} {ms : List (ME W)} {acc : Str} {k : Nat} (c : acc.length ≤ k) (hk : Nat.ble k 1000 = true) (a : eW (m e h) (fun w h1 => ∃ y, w = .str y ∧ y.length ≤ 16 ∧ ((acc ++ y).length ≤ k + 16 → eW (mJs ms (acc ++ y) e h1) Q X)) X) : eW (mJs (m :: ms) acc e h) Q X := by with_unfolding_all exact w_jsX c hk a
theorem w_ocN {C : Addr} {c1 c2 : List W → M W} {w : W} (e1 : insAt [C] h w = none) (q : wE (c2 [w] h) Q X) : wE (orC C c1 c2 [w] h) Q X := by
  unfold orC
  simp only [e1]
  exact q
theorem u_ocN {C : Addr} {c1 c2 : List W → M W} {w : W} (e1 : insAt [C] h w = none) (q : eW (c2 [w] h) Q X) : eW (orC C c1 c2 [w] h) Q X := by with_unfolding_all exact w_ocN e1 q
theorem w_strI {i : Int} (c : i.natAbs.log2 < 1920) (q : Q (.str (toString i)) h) : wE (strM [.int i] h) Q X := by
  unfold strM one
  simp only [asI]
  rw [if_pos c]; exact q
theorem u_strI {i : Int} (c : i.natAbs.log2 < 1920) (q : Q (.str (toString i)) h) : eW (strM [.int i] h) Q X := by with_unfolding_all exact w_strI c q
/-- two short texts together -/
theorem u_catK {a b : Str} (c : a.length + b.length ≤ 100000) (q : Q (.str (a ++ b)) h) : eW (addM (.str a) (.str b) h) Q X := u_catS (Nat.le_trans c (by decide)) q
theorem join6 {a b c d e f : Str} : Txt.join " " [a, b, c, d, e, f] = a ++ " " ++ b ++ " " ++ c ++ " " ++ d ++ " " ++ e ++ " " ++ f := by
  rw [TL.join_eq]
  simp only [Str.join, Str.append_assoc]
theorem toS_len {i : Int} (h0 : 0 ≤ i) (h1 : i ≤ 1000) : Str.length (toString i) ≤ 16 := (intTxt h0 h1).2
theorem toS_log {i : Int} (h0 : 0 ≤ i) (h1 : i ≤ 1000) : i.natAbs.log2 < 1920 := (intTxt h0 h1).1
theorem join6_len {a b c d e f : Str} (ha : a.length ≤ 16) (hb : b.length ≤ 16) (hc : c.length ≤ 16) (hd : d.length ≤ 16) (he : e.length ≤ 16) (hf : f.length ≤ 16) : (Txt.join " " [a, b, c, d, e, f]).length ≤ 200 := by
  rw [join6]
  have : (Str.ofString " ").length = 1 := by decide
  simp only [Str.length_append]
  omega
theorem join6_sum {a b c d e f : Str} (ha : a.length ≤ 16) (hb : b.length ≤ 16) (hc : c.length ≤ 16) (hd : d.length ≤ 16) (he : e.length ≤ 16) (hf : f.length ≤ 16) : (([a, b, c, d, e, f] : List Str).map (·.length)).sum + ([a, b, c, d, e, f] : List Str).length * (Str.ofString " ").length ≤ 16777216 := by
  have : (Str.ofString " ").length = 1 := by decide
  simp only [List.map_cons, List.map_nil, List.sum_cons, List.sum_nil, List.length_cons, List.length_nil]
  omega
theorem w_isB {k : Bool → Bool} {a b : Bool} (q : Q (.bl (k (decide (a = b)))) h) : wE (isBM k (.bl a) (.bl b) h) Q X := q
theorem u_isB {k : Bool → Bool} {a b : Bool} (q : Q (.bl (k (decide (a = b)))) h) : eW (isBM k (.bl a) (.bl b) h) Q X := by with_unfolding_all exact w_isB q
end
end Z
/-! The plain side of lambdas. -/
namespace Z
open PySem L2
section
variable {i k : Nat} {x y : Option W}
theorem re_re {u v : Option W} : ∀ (r : Option (Except AX Fl × Ev × Hv)), reE k v (reE k u r) = reE k v r
  | none => rfl
  | some (f, e, h) => by show some (f, (e.set k u).set k v, h) = some (f, e.set k v, h); rw [List.set_set]
theorem era_com (n : k ≠ i) {u : Option W} : ∀ (r : Option (Except AX Fl × Ev × Hv)), eraS i (reE k u r) = reE k u (eraS i r)
  | none => rfl
  | some (.ok f, e, h) => by show some (Except.ok f, (e.set k u).set i none, h) = some (.ok f, (e.set i none).set k u, h); rw [set_comm' n]
  | some (.error _, _, _) => rfl
theorem ie_act {f c f' c' : Addr} {q : Str} {σ σ' : List (Option V)} {sh : List Bool} {ws : List W} {mb : ME W} : IE i (some (.clo f c q σ sh ws)) (some (.clo f' c' q σ' sh ws)) (mAct i f c q σ mb) (mAct i f' c' q σ' mb) := fun e h => by
  unfold mAct
  by_cases hi : i < e.length
  · rw [List.getElem?_set_self hi, List.getElem?_set_self hi]
    simp
  · rw [List.getElem?_eq_none (by simpa using hi), List.getElem?_eq_none (by simpa using hi)]
open Classical in
theorem is_try {exm : Value → Option Bool} {mb mb' : MS} {ms ms' : Addr → Addr → MS} (n : k ≠ i) (a : IS k x y mb mb') (b : ∀ a D, IS k x y (ms a D) (ms' a D)) : IS k x y (sTry i exm mb ms) (sTry i exm mb' ms') := fun e h => by
  obtain ⟨r, e1, e2⟩ := a e h
  unfold sTry
  rw [e1, e2]
  match r with
  | none => exact ⟨none, rfl, rfl⟩
  | some (.ok f, e3, h3) => exact ⟨some (.ok f, e3, h3), rfl, rfl⟩
  | some (.error ⟨.ref D, none⟩, e3, h3) =>
    show ∃ r, (match exm (.ref D) with
      | some true => if hh : ∃ r, ∀ a, eraS i (ms a D ((e3.set k x).set i (some (.gl a))) h3) = r then hh.choose else none
      | some false => some (.error ⟨.ref D, none⟩, e3.set k x, h3)
      | none => none) = reE k x r ∧ (match exm (.ref D) with
      | some true => if hh : ∃ r, ∀ a, eraS i (ms' a D ((e3.set k y).set i (some (.gl a))) h3) = r then hh.choose else none
      | some false => some (.error ⟨.ref D, none⟩, e3.set k y, h3)
      | none => none) = reE k y r
    cases exm (.ref D) with
    | none => exact ⟨none, rfl, rfl⟩
    | some t =>
      cases t with
      | false => exact ⟨some (.error ⟨.ref D, none⟩, e3, h3), rfl, rfl⟩
      | true =>
        simp only
        have hb : ∀ a, ∃ r, eraS i (ms a D ((e3.set k x).set i (some (.gl a))) h3) = reE k x r ∧ eraS i (ms' a D ((e3.set k y).set i (some (.gl a))) h3) = reE k y r := fun a => by
          obtain ⟨r, g1, g2⟩ := b a D (e3.set i (some (.gl a))) h3
          refine ⟨eraS i r, ?_, ?_⟩
          · rw [set_comm' n, g1, era_com n]
          · rw [set_comm' n, g2, era_com n]
        by_cases h1 : ∃ r, ∀ a, eraS i (ms a D ((e3.set k x).set i (some (.gl a))) h3) = r
        · obtain ⟨r0, z0⟩ := id h1
          obtain ⟨s, s1, s2⟩ := hb 0
          have h2 : ∃ r, ∀ a, eraS i (ms' a D ((e3.set k y).set i (some (.gl a))) h3) = r := ⟨reE k y s, fun a => by
            obtain ⟨t, t1, t2⟩ := hb a
            have z : reE k x t = reE k x s := by rw [← t1, ← s1, z0 a, z0 0]
            have := congrArg (reE k y) z
            rw [re_re, re_re] at this
            rw [t2, this]⟩
          rw [dif_pos h1, dif_pos h2]
          exact ⟨s, by rw [← h1.choose_spec 0, s1], by rw [← h2.choose_spec 0, s2]⟩
        · have h2 : ¬ ∃ r, ∀ a, eraS i (ms' a D ((e3.set k y).set i (some (.gl a))) h3) = r := fun ⟨r0, z0⟩ => h1 (by
            obtain ⟨s, s1, s2⟩ := hb 0
            exact ⟨reE k x s, fun a => by
              obtain ⟨t, t1, t2⟩ := hb a
              have z : reE k y t = reE k y s := by rw [← t2, ← s2, z0 a, z0 0]
              have := congrArg (reE k x) z
              rw [re_re, re_re] at this
              rw [t1, this]⟩)
          rw [dif_neg h1, dif_neg h2]
          exact ⟨none, rfl, rfl⟩
  | some (.error ⟨.ref D, some fs⟩, e3, h3) => exact ⟨none, rfl, rfl⟩
  | some (.error ⟨.none, fs⟩, e3, h3) => cases fs <;> exact ⟨none, rfl, rfl⟩
  | some (.error ⟨.type _, fs⟩, e3, h3) => cases fs <;> exact ⟨none, rfl, rfl⟩
  | some (.error ⟨.bool _, fs⟩, e3, h3) => cases fs <;> exact ⟨none, rfl, rfl⟩
  | some (.error ⟨.int _ _, fs⟩, e3, h3) => cases fs <;> exact ⟨none, rfl, rfl⟩
  | some (.error ⟨.str _ _, fs⟩, e3, h3) => cases fs <;> exact ⟨none, rfl, rfl⟩
  | some (.error ⟨.builtin _, fs⟩, e3, h3) => cases fs <;> exact ⟨none, rfl, rfl⟩
  | some (.error ⟨.ellipsis, fs⟩, e3, h3) => cases fs <;> exact ⟨none, rfl, rfl⟩
  | some (.error ⟨.notImplemented, fs⟩, e3, h3) => cases fs <;> exact ⟨none, rfl, rfl⟩
  | some (.error ⟨.float _ _, fs⟩, e3, h3) => cases fs <;> exact ⟨none, rfl, rfl⟩
  | some (.error ⟨.bytes _ _, fs⟩, e3, h3) => cases fs <;> exact ⟨none, rfl, rfl⟩
end
section
variable {e : Ev} {h : Hv} {Q : W → Hv → Prop} {X : XH} {P : Addr} {q : Str} {F : Addr → Addr → List (Option V) → List W → M W} {n : Nat}
theorem w_lam (ht : h[n]? = some (.tab P q)) (ind : ∀ f c σ, F f c σ [.clo f c q σ (shE e) (wsE e)] h = F 0 0 [] [.clo 0 0 q [] (shE e) (wsE e)] h) (a : wE (F 0 0 [] [.clo 0 0 q [] (shE e) (wsE e)] h) Q X) : wE (mLam P q F e h) Q X := by
  unfold mLam
  have hh : ∃ r, ∀ f c σ, F f c σ [.clo f c q σ (shE e) (wsE e)] h = r := ⟨_, ind⟩
  rw [if_pos ⟨n, ht⟩, dif_pos hh, ← hh.choose_spec 0 0 []]
  exact a
theorem u_lam (ht : h[n]? = some (.tab P q)) (ind : ∀ f c σ, F f c σ [.clo f c q σ (shE e) (wsE e)] h = F 0 0 [] [.clo 0 0 q [] (shE e) (wsE e)] h) (a : eW (F 0 0 [] [.clo 0 0 q [] (shE e) (wsE e)] h) Q X) : eW (mLam P q F e h) Q X := by with_unfolding_all exact w_lam ht ind a
theorem w_act {i : Nat} {mb : ME W} {e0 : Ev} (he : e[i]? = some (some (.clo 0 0 q [] (shE e0) (wsE e0)))) (a : wE (mb e0 h) Q X) : wE (mAct i 0 0 q [] mb e h) Q X := by
  unfold mAct
  simp only [he, and_self, if_true, mkE_eq]
  exact a
theorem u_act {i : Nat} {mb : ME W} {e0 : Ev} (he : e[i]? = some (some (.clo 0 0 q [] (shE e0) (wsE e0)))) (a : eW (mb e0 h) Q X) : eW (mAct i 0 0 q [] mb e h) Q X := by with_unfolding_all exact w_act he a
theorem wE_both {r : Rs W} {Q Q' : W → Hv → Prop} {X X' : XH} (a : wE r Q X) (f : ∀ w h, Q w h → Q' w h) (g : ∀ x h, X x h → X' x h) : wE r Q' X' := by
  match r, a with
  | some (.ok w, h), a => exact f w h a
  | some (.error x, h), a => exact g x h a
theorem eW_both {r : Rs W} {Q Q' : W → Hv → Prop} {X X' : XH} (a : eW r Q X) (f : ∀ w h, Q w h → Q' w h) (g : ∀ x h, X x h → X' x h) : eW r Q' X' := by with_unfolding_all exact wE_both a f g
end
end Z
namespace K02
open PySem L2 Z
local macro_rules | `(tactic| walk_at "b") => `(tactic| first | rfl | (with_reducible assumption) | (simp only [Bool.not_eq_true', Bool.not_eq_false', decide_eq_true_eq, decide_eq_false_iff_not, Bool.not_eq_true, Bool.not_eq_false, Bool.and_eq_true, Bool.or_eq_true, Bool.and_eq_false_iff, Bool.or_eq_false_iff, Bool.not_true, Bool.not_false, decide_true, decide_false, List.all_cons, List.all_nil, List.any_cons, List.any_nil, id_eq, Bool.and_true, Bool.true_and, Bool.false_or, Bool.or_false, Bool.and_self, and_true, true_and, beq_self_eq_true] <;> omega))
local macro_rules | `(tactic| walk_at "k") => `(tactic| rfl)
local macro_rules | `(tactic| walk_at "p") => `(tactic| rfl)
local macro_rules | `(tactic| walk_at "m") => `(tactic| rfl)
local macro_rules | `(tactic| walk_at "i") => `(tactic| rfl)
local macro_rules | `(tactic| walk_at "y") => `(tactic| first | exact ct0 | exact cd0 | exact ct1 | exact cd1 | exact ct2 | exact cd2 | exact ct3 | exact cd3 | exact ct4 | exact cd4 | exact ct5 | exact cd5 | exact ct6 | exact cd6)
local macro_rules | `(tactic| walk_at "t") => `(tactic| ((repeat (with_reducible apply cat_cons)); exact List.nil_append _))
local macro_rules | `(tactic| walk_at "x") => `(tactic| with_reducible first | exact ix0 | exact ix1 | exact ix2 | exact ix3 | exact ix4 | exact ix5 | exact ix6 | exact ix7 | exact ix8 | exact ix9 | exact ix10 | exact ix11 | exact iy0 | exact iy1 | exact iy2 | exact iy3 | exact iy4 | exact iy5 | exact iy6 | exact iy7 | exact iy8 | exact iy9 | exact iy10 | exact iy11 | exact se0 | exact se1 | exact se2 | exact se3 | exact se4 | exact se5 | exact se6 | exact se7 | exact se8 | exact se9 | exact se10 | exact se11 | exact ap0 | exact ap1 | exact ap2 | exact ap3 | exact ap4 | exact ap5 | exact ap6 | exact ap7 | exact ap8 | exact ap9 | exact ap10 | exact ap11)
local macro_rules | `(tactic| walk_at "r") => `(tactic| first | (with_reducible assumption) | exact Rp.at (by with_reducible assumption) 0 (by rfl) | exact Rp.at (by with_reducible assumption) 1 (by rfl) | exact Rp.at (by with_reducible assumption) 2 (by rfl) | exact Rp.at (by with_reducible assumption) 3 (by rfl) | exact Rp.at (by with_reducible assumption) 4 (by rfl) | exact Rp.at (by with_reducible assumption) 5 (by rfl) | exact Rp.at (by with_reducible assumption) 6 (by rfl) | exact Rp.at (by with_reducible assumption) 7 (by rfl) | exact Rp.at (by with_reducible assumption) 8 (by rfl) | exact Rp.at (by with_reducible assumption) 9 (by rfl) | exact Rp.at (by with_reducible assumption) 10 (by rfl) | exact Rp.at (by with_reducible assumption) 11 (by rfl) | exact Rp.at (by with_reducible assumption) 12 (by rfl))
local macro_rules | `(tactic| walk_at "c") => `(tactic| first
  | ((with_reducible apply tt_of); omega)
  | ((with_reducible apply ff_of); omega)
  | ((with_reducible apply tt_of'); omega)
  | ((with_reducible apply ff_of'); omega)
  | ((with_reducible apply tt_b); walk_at "b")
  | ((with_reducible apply ff_b); walk_at "b")
  | ((with_reducible apply tt_b'); walk_at "b")
  | ((with_reducible apply ff_b'); walk_at "b"))
local macro_rules | `(tactic| walk_at "s") => `(tactic| first
  | with_reducible refine y_seq ?_
  | with_reducible refine y_asg ?_
  | with_reducible refine y_if ?_
  | with_reducible refine y_exp ?_
  | with_reducible refine y_ret ?_
  | with_reducible refine y_nm ?_
  | with_reducible refine y_nx ?_
  | with_reducible refine y_rt ?_
  | with_reducible refine y_bk ?_
  | with_reducible refine y_ct ?_
  | with_reducible refine y_tp rfl ?_
  | with_reducible refine y_gcons ?_
  | with_reducible refine y_gnil ?_
  | with_reducible refine y_nxo ?_
  | with_reducible refine y_subM ?_
  | with_reducible refine u_par ?_
  | with_reducible refine u_b2 ?_
  | with_reducible refine u_u1 ?_
  | with_reducible refine u_c ?_
  | with_reducible refine u_nil ?_
  | with_reducible refine u_cons ?_
  | with_reducible refine u_G ?_
  | with_reducible refine u_F ?_
  | with_reducible refine u_Kw ?_
  | with_reducible refine u_tup ?_
  | with_reducible refine u_test ?_
  | with_reducible refine u_notT ?_
  | with_reducible refine u_notV ?_
  | with_reducible refine u_if ?_
  | with_reducible refine u_chainLL ?_
  | with_reducible refine u_chain ?_
  | with_reducible refine u_add ?_
  | with_reducible refine u_sub ?_
  | with_reducible refine u_lt ?_
  | with_reducible refine u_le ?_
  | with_reducible refine u_gt ?_
  | with_reducible refine u_ge ?_
  | with_reducible refine u_neg ?_
  | with_reducible refine u_abs ?_
  | with_reducible refine u_max2 ?_
  | with_reducible refine u_min2 ?_
  | with_reducible refine u_eqI ?_
  | with_reducible refine u_neI ?_
  | with_reducible refine u_eqB ?_
  | with_reducible refine u_neB ?_
  | with_reducible refine u_eqS ?_
  | with_reducible refine u_neS ?_
  | with_reducible refine u_sl ?_
  | with_reducible refine u_no ?_
  | with_reducible refine u_part ?_
  | with_reducible refine u_it ?_
  | with_reducible refine u_srcS ?_
  | with_reducible refine u_srcT ?_
  | with_reducible refine u_rg1 ?_
  | with_reducible refine u_join ?_
  | with_reducible refine u_rev ?_
  | with_reducible refine u_keys ?_
  | with_reducible refine u_zip ?_
  | with_reducible refine u_fld ?_
  | with_reducible refine y_fldR ?_
  | with_reducible refine u_makeR ?_
  | with_reducible refine u_lstR ?_
  | with_reducible refine u_dspR ?_
  | with_reducible refine u_prsN ?_
  | with_reducible refine u_prsC ?_
  | with_reducible refine u_lcR ?_
  | with_reducible refine u_mbL ?_
  | with_reducible refine u_B ?_
  | with_reducible refine u_int_b ?_
  | with_reducible refine u_int_i ?_
  | with_reducible refine u_slT ?_
  | ((with_reducible apply u_var); rfl)
  | ((with_reducible apply u_isi); (first | rfl | exact tyW_ins (by walk_at "r") | exact tyW_lst (by walk_at "r") | exact tyW_dk (by walk_at "r")); rfl; walk_at "i")
  | ((with_reducible apply u_ixA); exact seqLT_of (by walk_at "r"); walk_at "x")
  | ((with_reducible apply u_ixAT); walk_at "x")
  | ((with_reducible apply u_srcL); walk_at "r")
  | ((with_reducible apply u_slS); (with_reducible assumption))
  | ((with_reducible apply u_lenS); (with_reducible assumption))
  | ((with_reducible apply u_len); (first | rfl | exact seqLT_of (by walk_at "r")))
  | ((with_reducible apply u_mod); (first | (with_reducible assumption) | omega))
  | ((with_reducible apply u_fdiv'); omega; omega)
  | ((with_reducible apply u_mulP); omega; omega)
  | ((with_reducible apply u_mulQ); omega; omega)
  | ((with_reducible apply u_powP); omega; omega; omega; omega)
  | ((with_reducible apply u_dget); walk_at "r"; rfl; walk_at "k")
  | ((with_reducible apply u_kd); walk_at "k")
  | ((with_reducible apply u_allL); walk_at "r"; rfl)
  | ((with_reducible apply u_anyL); walk_at "r"; rfl)
  | ((with_reducible apply u_catLR); walk_at "r"; walk_at "r"; rfl; walk_at "t"; (with_reducible assumption); intro _ _ _)
  | ((with_reducible apply u_slLR); walk_at "r"; walk_at "y"; (with_reducible assumption); intro _ _ _)
  | ((with_reducible apply u_listLR); (first | rfl | exact seqLT_of (by walk_at "r")); (with_reducible assumption); intro _ _ _)
  | ((with_reducible apply setR_ok (i := 0)); (with_reducible assumption); rfl; walk_at "x"; walk_at "x"; exact se0; intro _ _)
  | ((with_reducible apply setR_ok (i := 1)); (with_reducible assumption); rfl; walk_at "x"; walk_at "x"; exact se1; intro _ _)
  | ((with_reducible apply setR_ok (i := 2)); (with_reducible assumption); rfl; walk_at "x"; walk_at "x"; exact se2; intro _ _)
  | ((with_reducible apply setR_ok (i := 3)); (with_reducible assumption); rfl; walk_at "x"; walk_at "x"; exact se3; intro _ _)
  | ((with_reducible apply setR_ok (i := 4)); (with_reducible assumption); rfl; walk_at "x"; walk_at "x"; exact se4; intro _ _)
  | ((with_reducible apply setR_ok (i := 5)); (with_reducible assumption); rfl; walk_at "x"; walk_at "x"; exact se5; intro _ _)
  | ((with_reducible apply u_appendR (i := 0)); (with_reducible assumption); rfl; rfl; walk_at "x"; exact se0; intro _ _)
  | ((with_reducible apply u_appendR (i := 1)); (with_reducible assumption); rfl; rfl; walk_at "x"; exact se1; intro _ _)
  | ((with_reducible apply u_appendR (i := 2)); (with_reducible assumption); rfl; rfl; walk_at "x"; exact se2; intro _ _)
  | ((with_reducible apply u_appendR (i := 3)); (with_reducible assumption); rfl; rfl; walk_at "x"; exact se3; intro _ _)
  | ((with_reducible apply u_appendR (i := 4)); (with_reducible assumption); rfl; rfl; walk_at "x"; exact se4; intro _ _)
  | ((with_reducible apply u_appendR (i := 5)); (with_reducible assumption); rfl; rfl; walk_at "x"; exact se5; intro _ _)
  | with_reducible refine ⟨_, _, _, rfl, rfl, rfl, rfl, ?_⟩
  | with_reducible refine ⟨_, rfl, ?_⟩
  | ((with_reducible apply lst_go); rfl; (with_reducible assumption); intro _ _ _)
  | ((with_reducible apply make_go'); rfl; rfl; (with_reducible assumption); intro _ _ _)
  | ((with_reducible apply kwd_go); rfl; rfl)
  | ((with_reducible apply len_go); rfl)
  | ((with_reducible apply tup_go); rfl)
  | ((with_reducible apply fld_go); walk_at "r"; (first | exact List.mem_singleton_self _ | simp); walk_at "k")
  | ((with_reducible apply mb_go); walk_at "r")
  | ((with_reducible apply zip_go); walk_at "r"; walk_at "r")
  | ((with_reducible apply dsp_go); (with_reducible assumption); rfl; walk_at "m"; intro _ _)
  | ((with_reducible apply key_go); rfl)
  | ((with_reducible apply lcc_go (i := 0)); (with_reducible assumption); rfl; rfl; walk_at "x"; exact se0; intro _ _)
  | ((with_reducible apply lcc_go (i := 1)); (with_reducible assumption); rfl; rfl; walk_at "x"; exact se1; intro _ _)
  | ((with_reducible apply lcc_go (i := 2)); (with_reducible assumption); rfl; rfl; walk_at "x"; exact se2; intro _ _)
  | ((with_reducible apply lcc_go (i := 3)); (with_reducible assumption); rfl; rfl; walk_at "x"; exact se3; intro _ _)
  | ((with_reducible apply lcc_go (i := 4)); (with_reducible assumption); rfl; rfl; walk_at "x"; exact se4; intro _ _)
  | ((with_reducible apply lcc_go (i := 5)); (with_reducible assumption); rfl; rfl; walk_at "x"; exact se5; intro _ _)
  | ((with_reducible apply xfld_go (i := 0)); (with_reducible assumption); rfl; (first | exact List.mem_singleton_self _ | simp); rfl; walk_at "p"; exact se0; intro _ _)
  | ((with_reducible apply xfld_go (i := 1)); (with_reducible assumption); rfl; (first | exact List.mem_singleton_self _ | simp); rfl; walk_at "p"; exact se1; intro _ _)
  | ((with_reducible apply xfld_go (i := 2)); (with_reducible assumption); rfl; (first | exact List.mem_singleton_self _ | simp); rfl; walk_at "p"; exact se2; intro _ _)
  | ((with_reducible apply xfld_go (i := 3)); (with_reducible assumption); rfl; (first | exact List.mem_singleton_self _ | simp); rfl; walk_at "p"; exact se3; intro _ _)
  | ((with_reducible apply xfld_go (i := 4)); (with_reducible assumption); rfl; (first | exact List.mem_singleton_self _ | simp); rfl; walk_at "p"; exact se4; intro _ _)
  | ((with_reducible apply xfld_go (i := 5)); (with_reducible assumption); rfl; (first | exact List.mem_singleton_self _ | simp); rfl; walk_at "p"; exact se5; intro _ _)
  | ((with_reducible apply new_go); (with_reducible assumption); intro _ _ _))
local macro_rules | `(tactic| walk_at "l") => `(tactic| first
  | refine u_lcC trivial rfl ?_ | refine u_lcN trivial ?_ | refine u_lcC (seqL_of (by walk_at "r")) rfl ?_ | refine u_lcN (seqL_of (by walk_at "r")) ?_
  | refine u_lcC ⟨seqL_of (by walk_at "r"), seqL_of (by walk_at "r")⟩ rfl ?_ | refine u_lcN ⟨seqL_of (by walk_at "r"), seqL_of (by walk_at "r")⟩ ?_
  | refine y_lpC trivial ?_ | refine y_lpN trivial ?_ | refine y_lpC (seqL_of (by walk_at "r")) ?_ | refine y_lpN (seqL_of (by walk_at "r")) ?_)
local macro_rules | `(tactic| walk_at "a") => `(tactic| with_reducible first | refine u_andT ?_ | refine u_orT ?_ | refine u_andV ?_ | refine u_orV ?_)
local macro_rules | `(tactic| walk_at "P") => `(tactic| first
  | (with_reducible refine u_andTP ?_) | (with_reducible refine u_orTP ?_) | (with_reducible refine u_andVP ?_) | (with_reducible refine u_orVP ?_)
  | ((with_reducible apply i_andp_go); (intro _; walk_at "gp"; exact ⟨rfl, rfl⟩)) | ((with_reducible apply i_orp_go); (intro _; walk_at "gp"; exact ⟨rfl, rfl⟩)) | ((with_reducible apply i_andtp_go); (intro _; walk_at "gp"; exact ⟨rfl, rfl⟩)) | ((with_reducible apply i_ortp_go); (intro _; walk_at "gp"; exact ⟨rfl, rfl⟩)))
local macro_rules | `(tactic| walk_at "gp") => `(tactic| repeat first | walk_at "s" | walk_at "P" | walk_at "c" | walk_at "d" | walk_at "l")
local macro_rules | `(tactic| walk_at "g") => `(tactic| repeat first | walk_at "s" | walk_at "a" | walk_at "c" | walk_at "d" | walk_at "l")
local macro_rules | `(tactic| walk_at "d") => `(tactic| first | ((with_reducible apply take_R (i := 0)); (with_reducible assumption); rfl; (with_reducible assumption); (first | omega | (rfl)); (first | omega | rfl); (exact fun _ _ => se0); intro _ _ _ _ _ _ _ _) | ((with_reducible apply take_R (i := 1)); (with_reducible assumption); rfl; (with_reducible assumption); (first | omega | (rfl)); (first | omega | rfl); (exact fun _ _ => se1); intro _ _ _ _ _ _ _ _) | ((with_reducible apply take_R (i := 2)); (with_reducible assumption); rfl; (with_reducible assumption); (first | omega | (rfl)); (first | omega | rfl); (exact fun _ _ => se2); intro _ _ _ _ _ _ _ _) | ((with_reducible apply take_R (i := 3)); (with_reducible assumption); rfl; (with_reducible assumption); (first | omega | (rfl)); (first | omega | rfl); (exact fun _ _ => se3); intro _ _ _ _ _ _ _ _) | ((with_reducible apply take_R (i := 4)); (with_reducible assumption); rfl; (with_reducible assumption); (first | omega | (rfl)); (first | omega | rfl); (exact fun _ _ => se4); intro _ _ _ _ _ _ _ _) | ((with_reducible apply take_R (i := 5)); (with_reducible assumption); rfl; (with_reducible assumption); (first | omega | (rfl)); (first | omega | rfl); (exact fun _ _ => se5); intro _ _ _ _ _ _ _ _) | ((with_reducible apply take_R (i := 6)); (with_reducible assumption); rfl; (with_reducible assumption); (first | omega | (rfl)); (first | omega | rfl); (exact fun _ _ => se6); intro _ _ _ _ _ _ _ _) | ((with_reducible apply take_R (i := 7)); (with_reducible assumption); rfl; (with_reducible assumption); (first | omega | (rfl)); (first | omega | rfl); (exact fun _ _ => se7); intro _ _ _ _ _ _ _ _) | ((with_reducible apply take_R (i := 8)); (with_reducible assumption); rfl; (with_reducible assumption); (first | omega | (rfl)); (first | omega | rfl); (exact fun _ _ => se8); intro _ _ _ _ _ _ _ _) | ((with_reducible apply take_R (i := 9)); (with_reducible assumption); rfl; (with_reducible assumption); (first | omega | (rfl)); (first | omega | rfl); (exact fun _ _ => se9); intro _ _ _ _ _ _ _ _))
local macro_rules | `(tactic| walk_at "ind1") => `(tactic| first
  | with_reducible exact ie_is | with_reducible exact ie_c | with_reducible exact ie_nil | with_reducible exact ie_mB | with_reducible exact is_nx | with_reducible exact ig_nil | with_reducible exact is_rt
  | ((with_reducible apply ie_var); decide) | with_reducible apply ie_cons | with_reducible apply ie_tup | with_reducible apply ie_lst | with_reducible apply ie_G | with_reducible apply ie_b2
  | with_reducible apply ie_test | with_reducible apply ie_notT | with_reducible apply ie_notV | with_reducible apply ie_andT | with_reducible apply ie_orT | with_reducible apply ie_andV | with_reducible apply ie_orV
  | with_reducible apply ie_if | with_reducible apply ie_itL | ((with_reducible apply ig_nm); decide) | with_reducible apply ig_cons | with_reducible apply ig_tp | ((with_reducible refine ie_lc ?_ ?_ ?_ ?_ (by decide)))
  | with_reducible apply is_seq | ((with_reducible refine is_asg ?_ (by decide))) | with_reducible apply is_ret | with_reducible apply is_exp | with_reducible apply is_if | with_reducible apply ie_F)
local macro_rules | `(tactic| walk_at "ind") => `(tactic| repeat walk_at "ind1")
section
variable {A : Ad}
theorem xi_NoName_Came (hx : Cons (tabX A)) : isxT (tabX A) (.ref A.a_NoName) (.ref A.a_Came) = some false := isxT_f hx (List.mem_of_getElem? (i := 0) rfl)
theorem xi_NoName_Claimed (hx : Cons (tabX A)) : isxT (tabX A) (.ref A.a_NoName) (.ref A.a_Claimed) = some false := isxT_f hx (List.mem_of_getElem? (i := 1) rfl)
theorem xi_NoName_Due (hx : Cons (tabX A)) : isxT (tabX A) (.ref A.a_NoName) (.ref A.a_Due) = some false := isxT_f hx (List.mem_of_getElem? (i := 2) rfl)
theorem xi_NoName_Early (hx : Cons (tabX A)) : isxT (tabX A) (.ref A.a_NoName) (.ref A.a_Early) = some false := isxT_f hx (List.mem_of_getElem? (i := 3) rfl)
theorem xi_NoName_IsOn (hx : Cons (tabX A)) : isxT (tabX A) (.ref A.a_NoName) (.ref A.a_IsOn) = some false := isxT_f hx (List.mem_of_getElem? (i := 4) rfl)
theorem xi_NoName_LookupError (hx : Cons (tabX A)) : isxT (tabX A) (.ref A.a_NoName) (.type "LookupError") = some false := isxT_f hx (List.mem_of_getElem? (i := 5) rfl)
theorem xi_NoName_NoBounds (hx : Cons (tabX A)) : isxT (tabX A) (.ref A.a_NoName) (.ref A.a_NoBounds) = some false := isxT_f hx (List.mem_of_getElem? (i := 6) rfl)
theorem xi_NoName_NoClaim (hx : Cons (tabX A)) : isxT (tabX A) (.ref A.a_NoName) (.ref A.a_NoClaim) = some false := isxT_f hx (List.mem_of_getElem? (i := 7) rfl)
theorem xi_NoName_NoHand (hx : Cons (tabX A)) : isxT (tabX A) (.ref A.a_NoName) (.ref A.a_NoHand) = some false := isxT_f hx (List.mem_of_getElem? (i := 8) rfl)
theorem xi_NoName_NoHands (hx : Cons (tabX A)) : isxT (tabX A) (.ref A.a_NoName) (.ref A.a_NoHands) = some false := isxT_f hx (List.mem_of_getElem? (i := 9) rfl)
theorem xi_NoName_NoLess (hx : Cons (tabX A)) : isxT (tabX A) (.ref A.a_NoName) (.ref A.a_NoLess) = some false := isxT_f hx (List.mem_of_getElem? (i := 10) rfl)
theorem xi_NoName_NoLetter (hx : Cons (tabX A)) : isxT (tabX A) (.ref A.a_NoName) (.ref A.a_NoLetter) = some false := isxT_f hx (List.mem_of_getElem? (i := 11) rfl)
theorem xi_NoName_NoMark (hx : Cons (tabX A)) : isxT (tabX A) (.ref A.a_NoName) (.ref A.a_NoMark) = some false := isxT_f hx (List.mem_of_getElem? (i := 12) rfl)
theorem xi_NoName_NoName (hx : Cons (tabX A)) : isxT (tabX A) (.ref A.a_NoName) (.ref A.a_NoName) = some true := isxT_t (List.mem_of_getElem? (i := 13) rfl)
theorem xi_NoName_NoNext (hx : Cons (tabX A)) : isxT (tabX A) (.ref A.a_NoName) (.ref A.a_NoNext) = some false := isxT_f hx (List.mem_of_getElem? (i := 14) rfl)
theorem xi_NoName_NoPaper (hx : Cons (tabX A)) : isxT (tabX A) (.ref A.a_NoName) (.ref A.a_NoPaper) = some false := isxT_f hx (List.mem_of_getElem? (i := 15) rfl)
theorem xi_NoName_NoRule (hx : Cons (tabX A)) : isxT (tabX A) (.ref A.a_NoName) (.ref A.a_NoRule) = some false := isxT_f hx (List.mem_of_getElem? (i := 16) rfl)
theorem xi_NoName_NoSaying (hx : Cons (tabX A)) : isxT (tabX A) (.ref A.a_NoName) (.ref A.a_NoSaying) = some false := isxT_f hx (List.mem_of_getElem? (i := 17) rfl)
theorem xi_NoName_NoScript (hx : Cons (tabX A)) : isxT (tabX A) (.ref A.a_NoName) (.ref A.a_NoScript) = some false := isxT_f hx (List.mem_of_getElem? (i := 18) rfl)
theorem xi_NoName_NoTries (hx : Cons (tabX A)) : isxT (tabX A) (.ref A.a_NoName) (.ref A.a_NoTries) = some false := isxT_f hx (List.mem_of_getElem? (i := 19) rfl)
theorem xi_NoName_NoWire (hx : Cons (tabX A)) : isxT (tabX A) (.ref A.a_NoName) (.ref A.a_NoWire) = some false := isxT_f hx (List.mem_of_getElem? (i := 20) rfl)
theorem xi_NoName_NotEmpty (hx : Cons (tabX A)) : isxT (tabX A) (.ref A.a_NoName) (.ref A.a_NotEmpty) = some false := isxT_f hx (List.mem_of_getElem? (i := 21) rfl)
theorem xi_NoName_NotOn (hx : Cons (tabX A)) : isxT (tabX A) (.ref A.a_NoName) (.ref A.a_NotOn) = some false := isxT_f hx (List.mem_of_getElem? (i := 22) rfl)
theorem xi_NoName_Owed (hx : Cons (tabX A)) : isxT (tabX A) (.ref A.a_NoName) (.ref A.a_Owed) = some false := isxT_f hx (List.mem_of_getElem? (i := 23) rfl)
theorem xi_NoName_SameWire (hx : Cons (tabX A)) : isxT (tabX A) (.ref A.a_NoName) (.ref A.a_SameWire) = some false := isxT_f hx (List.mem_of_getElem? (i := 24) rfl)
theorem xi_NoName_TooMany (hx : Cons (tabX A)) : isxT (tabX A) (.ref A.a_NoName) (.ref A.a_TooMany) = some false := isxT_f hx (List.mem_of_getElem? (i := 25) rfl)
theorem xi_NoName_ValueError (hx : Cons (tabX A)) : isxT (tabX A) (.ref A.a_NoName) (.type "ValueError") = some true := isxT_t (List.mem_of_getElem? (i := 26) rfl)
theorem xi_NoName_WireError (hx : Cons (tabX A)) : isxT (tabX A) (.ref A.a_NoName) (.ref A.a_WireError) = some true := isxT_t (List.mem_of_getElem? (i := 27) rfl)
theorem xi_NoNext_Came (hx : Cons (tabX A)) : isxT (tabX A) (.ref A.a_NoNext) (.ref A.a_Came) = some false := isxT_f hx (List.mem_of_getElem? (i := 28) rfl)
theorem xi_NoNext_Claimed (hx : Cons (tabX A)) : isxT (tabX A) (.ref A.a_NoNext) (.ref A.a_Claimed) = some false := isxT_f hx (List.mem_of_getElem? (i := 29) rfl)
theorem xi_NoNext_Due (hx : Cons (tabX A)) : isxT (tabX A) (.ref A.a_NoNext) (.ref A.a_Due) = some false := isxT_f hx (List.mem_of_getElem? (i := 30) rfl)
theorem xi_NoNext_Early (hx : Cons (tabX A)) : isxT (tabX A) (.ref A.a_NoNext) (.ref A.a_Early) = some false := isxT_f hx (List.mem_of_getElem? (i := 31) rfl)
theorem xi_NoNext_IsOn (hx : Cons (tabX A)) : isxT (tabX A) (.ref A.a_NoNext) (.ref A.a_IsOn) = some false := isxT_f hx (List.mem_of_getElem? (i := 32) rfl)
theorem xi_NoNext_LookupError (hx : Cons (tabX A)) : isxT (tabX A) (.ref A.a_NoNext) (.type "LookupError") = some false := isxT_f hx (List.mem_of_getElem? (i := 33) rfl)
theorem xi_NoNext_NoBounds (hx : Cons (tabX A)) : isxT (tabX A) (.ref A.a_NoNext) (.ref A.a_NoBounds) = some false := isxT_f hx (List.mem_of_getElem? (i := 34) rfl)
theorem xi_NoNext_NoClaim (hx : Cons (tabX A)) : isxT (tabX A) (.ref A.a_NoNext) (.ref A.a_NoClaim) = some false := isxT_f hx (List.mem_of_getElem? (i := 35) rfl)
theorem xi_NoNext_NoHand (hx : Cons (tabX A)) : isxT (tabX A) (.ref A.a_NoNext) (.ref A.a_NoHand) = some false := isxT_f hx (List.mem_of_getElem? (i := 36) rfl)
theorem xi_NoNext_NoHands (hx : Cons (tabX A)) : isxT (tabX A) (.ref A.a_NoNext) (.ref A.a_NoHands) = some false := isxT_f hx (List.mem_of_getElem? (i := 37) rfl)
theorem xi_NoNext_NoLess (hx : Cons (tabX A)) : isxT (tabX A) (.ref A.a_NoNext) (.ref A.a_NoLess) = some false := isxT_f hx (List.mem_of_getElem? (i := 38) rfl)
theorem xi_NoNext_NoLetter (hx : Cons (tabX A)) : isxT (tabX A) (.ref A.a_NoNext) (.ref A.a_NoLetter) = some false := isxT_f hx (List.mem_of_getElem? (i := 39) rfl)
theorem xi_NoNext_NoMark (hx : Cons (tabX A)) : isxT (tabX A) (.ref A.a_NoNext) (.ref A.a_NoMark) = some false := isxT_f hx (List.mem_of_getElem? (i := 40) rfl)
theorem xi_NoNext_NoName (hx : Cons (tabX A)) : isxT (tabX A) (.ref A.a_NoNext) (.ref A.a_NoName) = some false := isxT_f hx (List.mem_of_getElem? (i := 41) rfl)
theorem xi_NoNext_NoNext (hx : Cons (tabX A)) : isxT (tabX A) (.ref A.a_NoNext) (.ref A.a_NoNext) = some true := isxT_t (List.mem_of_getElem? (i := 42) rfl)
theorem xi_NoNext_NoPaper (hx : Cons (tabX A)) : isxT (tabX A) (.ref A.a_NoNext) (.ref A.a_NoPaper) = some false := isxT_f hx (List.mem_of_getElem? (i := 43) rfl)
theorem xi_NoNext_NoRule (hx : Cons (tabX A)) : isxT (tabX A) (.ref A.a_NoNext) (.ref A.a_NoRule) = some false := isxT_f hx (List.mem_of_getElem? (i := 44) rfl)
theorem xi_NoNext_NoSaying (hx : Cons (tabX A)) : isxT (tabX A) (.ref A.a_NoNext) (.ref A.a_NoSaying) = some false := isxT_f hx (List.mem_of_getElem? (i := 45) rfl)
theorem xi_NoNext_NoScript (hx : Cons (tabX A)) : isxT (tabX A) (.ref A.a_NoNext) (.ref A.a_NoScript) = some false := isxT_f hx (List.mem_of_getElem? (i := 46) rfl)
theorem xi_NoNext_NoTries (hx : Cons (tabX A)) : isxT (tabX A) (.ref A.a_NoNext) (.ref A.a_NoTries) = some false := isxT_f hx (List.mem_of_getElem? (i := 47) rfl)
theorem xi_NoNext_NoWire (hx : Cons (tabX A)) : isxT (tabX A) (.ref A.a_NoNext) (.ref A.a_NoWire) = some false := isxT_f hx (List.mem_of_getElem? (i := 48) rfl)
theorem xi_NoNext_NotEmpty (hx : Cons (tabX A)) : isxT (tabX A) (.ref A.a_NoNext) (.ref A.a_NotEmpty) = some false := isxT_f hx (List.mem_of_getElem? (i := 49) rfl)
theorem xi_NoNext_NotOn (hx : Cons (tabX A)) : isxT (tabX A) (.ref A.a_NoNext) (.ref A.a_NotOn) = some false := isxT_f hx (List.mem_of_getElem? (i := 50) rfl)
theorem xi_NoNext_Owed (hx : Cons (tabX A)) : isxT (tabX A) (.ref A.a_NoNext) (.ref A.a_Owed) = some false := isxT_f hx (List.mem_of_getElem? (i := 51) rfl)
theorem xi_NoNext_SameWire (hx : Cons (tabX A)) : isxT (tabX A) (.ref A.a_NoNext) (.ref A.a_SameWire) = some false := isxT_f hx (List.mem_of_getElem? (i := 52) rfl)
theorem xi_NoNext_TooMany (hx : Cons (tabX A)) : isxT (tabX A) (.ref A.a_NoNext) (.ref A.a_TooMany) = some false := isxT_f hx (List.mem_of_getElem? (i := 53) rfl)
theorem xi_NoNext_ValueError (hx : Cons (tabX A)) : isxT (tabX A) (.ref A.a_NoNext) (.type "ValueError") = some true := isxT_t (List.mem_of_getElem? (i := 54) rfl)
theorem xi_NoNext_WireError (hx : Cons (tabX A)) : isxT (tabX A) (.ref A.a_NoNext) (.ref A.a_WireError) = some true := isxT_t (List.mem_of_getElem? (i := 55) rfl)
theorem xe_NoName : exT (tabE A) (.ref A.a_NoName) = some true := exT_t (List.mem_of_getElem? (i := 0) rfl)
theorem xe_NoNext : exT (tabE A) (.ref A.a_NoNext) = some true := exT_t (List.mem_of_getElem? (i := 1) rfl)
end
section
end
end K02
namespace K02
open PySem L2 Z
variable {A : Ad}
local macro_rules | `(tactic| get_elem_tactic_trivial) => `(tactic| with_reducible first
  | refine x_seq ?_ | refine x_asg ?_ | refine x_if ?_ | refine x_exp ?_ | refine x_ret ?_ | refine x_nm ?_ | refine x_nx ?_ | refine x_rt ?_ | refine x_tp rfl ?_ | refine x_gcons ?_ | refine x_gnil ?_
  | refine x_nxo ?_ | refine x_subM ?_ | refine w_par ?_
  | refine w_b2 ?_ | refine w_u1 ?_ | refine w_c ?_ | refine w_nil ?_ | refine w_cons ?_ | refine w_G ?_ | refine w_F ?_ | refine w_Kw ?_ | refine w_tup ?_ | refine w_lst ?_ | refine w_test ?_ | refine w_notT ?_ | refine w_andT ?_ | refine w_orT ?_
  | refine w_andV ?_ | refine w_orV ?_ | refine w_notV ?_ | refine w_if ?_ | refine w_append' ?_ | refine w_chain ?_
  | refine w_add ?_ | refine w_sub ?_ | refine w_lt ?_ | refine w_le ?_ | refine w_gt ?_ | refine w_ge ?_ | refine w_neg ?_ | refine w_abs ?_ | refine w_max2 ?_ | refine w_min2 ?_
  | refine w_eqI ?_ | refine w_neI ?_ | refine w_eqB ?_ | refine w_neB ?_ | refine w_eqS ?_ | refine w_neS ?_ | refine w_isi rfl rfl rfl ?_
  | refine w_sl ?_ | refine w_no ?_ | refine w_part ?_ | refine w_it ?_ | refine w_srcS ?_ | refine w_srcT ?_ | refine w_rg1 ?_ | refine w_lc ?_ | refine w_join ?_ | refine w_rev ?_
  | refine w_var (by with_unfolding_all rfl) ?_
  | refine w_ixA (seqLT_of (by assumption)) (by with_unfolding_all rfl) ?_
  | refine w_ixAT (by with_unfolding_all rfl) ?_
  | refine w_srcL (by assumption) ?_
  | refine w_slS (by assumption) ?_
  | refine w_lenS (by assumption) ?_
  | refine set_ok (by assumption) (by with_unfolding_all rfl) ?_
  | refine w_mod (by first | assumption | omega) ?_
  | refine w_fdiv' (by omega) (by omega) ?_
  | refine w_mulR (by omega) (by omega) ?_ | refine w_mulL (by omega) (by omega) ?_
  | refine w_pow' (by omega) (by omega) (by omega) ?_
  | refine ⟨_, rfl, ?_⟩ | refine ⟨le_sz (by with_unfolding_all rfl), ?_⟩ | refine ⟨(by with_unfolding_all rfl : List.length _ = _), ?_⟩)
/-- a bag of draws -/
def Bag (h : Hv) (b : Nat) : Prop := ∃ g x : Int, h[b]? = some (.lst [.int g, .int x]) ∧ 0 ≤ g ∧ 0 ≤ x ∧ x < 2147483647
/-- nothing but b changed -/
def Fr (b : Nat) (h h' : Hv) : Prop := h'.length = h.length ∧ ∀ r, r ≠ b → h'[r]? = h[r]?
theorem take_ok {b : Nat} {n : Int} {h : Hv} {X : XH} (hb : Bag h b) (hn : 0 < n) (hn2 : n < 1000000) :
    wE (F_law_take A [.ref b, .int n] h) (fun w h' => ∃ d : Int, w = .int d ∧ 0 ≤ d ∧ d < n ∧ Bag h' b ∧ Fr b h h') X := by
  obtain ⟨g, x, hb, hg, hx, hx2⟩ := hb
  unfold F_law_take
  refine w_runB ?_
  show wS (m_law_take A [some (.ref b), some (.int n), none] h) _ _ _ _ _
  unfold m_law_take
  repeat get_elem_tactic_trivial
  constructor
  · intro c
    have c : 0 < g := of_decide_eq_true c
    repeat get_elem_tactic_trivial
    refine ⟨Int.emod_nonneg _ (by omega), Int.emod_lt_of_pos _ hn, ⟨_, _, at_set hb, Int.ediv_nonneg hg (by omega), hx, hx2⟩, by simp, fun r hr => List.getElem?_set_ne (Ne.symm hr)⟩
  · intro c
    repeat get_elem_tactic_trivial
    have hb1 := at_set (o := .lst [.int g, .int ((x * 69069 + 1327217) % 2147483647)]) hb
    have hx3 : 0 ≤ (x * 69069 + 1327217) % 2147483647 := Int.emod_nonneg _ (by omega)
    have hx4 : (x * 69069 + 1327217) % 2147483647 < 2147483647 := Int.emod_lt_of_pos _ (by omega)
    refine w_ixA (seqLT_of hb1) (by with_unfolding_all rfl) ?_
    repeat get_elem_tactic_trivial
    exact ⟨Int.emod_nonneg _ (by omega), Int.emod_lt_of_pos _ hn, ⟨g, _, hb1, hg, hx3, hx4⟩, by simp, fun r hr => List.getElem?_set_ne (Ne.symm hr)⟩
theorem bag_ok {ns : List Int} {i : Nat} {h : Hv} {X : XH} (hi : (i : Int) < 64) : wE (F_law_bag A [.cl (ns.map W.int), .int i] h) (fun w h' => w = .ref (h.length + 1) ∧ Bag h' (h.length + 1) ∧ ∃ l l', h' = h ++ [.lst l] ++ [.lst l']) X := by
  unfold F_law_bag
  refine w_runB ?_
  show wS (m_law_bag A [some (.cl (ns.map W.int)), some (.int i), none, none, none, none] h) _ _ _ _ _
  unfold m_law_bag
  refine x_seq ?_
  iterate 3 get_elem_tactic_trivial
  refine x_seqI (fun e h' => h' = h ∧ ∃ c : Int, e = [some (.cl (ns.map W.int)), some (.int i), some (.int c), none, none, none]) ?_ ?_
  · iterate 8 get_elem_tactic_trivial
    refine w_len rfl ?_
    repeat get_elem_tactic_trivial
    refine ⟨fun q => ?_, fun q => ?_⟩
    · repeat get_elem_tactic_trivial
      have q := of_decide_eq_true q
      rw [List.length_map] at q
      refine w_ixA (x := .cl _) rfl (w := .int (ns[i]'(by omega))) ?_ ?_
      · exact Z.atI_n (by simp)
      · repeat get_elem_tactic_trivial
        exact ⟨rfl, _, rfl⟩
    · repeat get_elem_tactic_trivial
      exact ⟨rfl, _, rfl⟩
  rintro e h' ⟨rfl, c, rfl⟩
  refine x_seq ?_
  iterate 3 get_elem_tactic_trivial
  refine x_seqI (fun e h1 => h1 = h' ∧ ∃ g : Int, 0 ≤ g ∧ e = [some (.cl (ns.map W.int)), some (.int i), some (.int c), some (.int g), none, none]) ?_ ?_
  · repeat get_elem_tactic_trivial
    refine ⟨fun q => ?_, fun q => ?_⟩
    · repeat get_elem_tactic_trivial
      exact ⟨rfl, _, by split <;> omega, rfl⟩
    · repeat get_elem_tactic_trivial
      exact ⟨rfl, 0, by omega, rfl⟩
  rintro e h1 ⟨rfl, g, hg, rfl⟩
  repeat get_elem_tactic_trivial
  obtain ⟨p, ep, hp, hp2⟩ : ∃ p : Int, atI [W.int 2147483647, W.int 2147483629, W.int 2147483587, W.int 2147483579, W.int 2147483563, W.int 2147483549, W.int 2147483543, W.int 2147483497] ((i : Int) % 8) = some (.int p) ∧ 0 < p ∧ p ≤ 2147483647 := by
    have h8 : (i : Int) % 8 = 0 ∨ (i : Int) % 8 = 1 ∨ (i : Int) % 8 = 2 ∨ (i : Int) % 8 = 3 ∨ (i : Int) % 8 = 4 ∨ (i : Int) % 8 = 5 ∨ (i : Int) % 8 = 6 ∨ (i : Int) % 8 = 7 := by omega
    rcases h8 with q | q | q | q | q | q | q | q <;> rw [q] <;> exact ⟨_, rfl, by decide, by decide⟩
  refine w_ixA (seqLT_of at_new) ep ?_
  repeat get_elem_tactic_trivial
  refine ⟨by simp, ⟨g, _, at_new2, hg, Int.emod_nonneg _ (by omega), Int.lt_of_lt_of_le (Int.emod_lt_of_pos _ hp) hp2⟩, _, _, rfl⟩
/-! ### texts -/
abbrev lts : Str := "abcdefghijklmnopqrstuvwxyz"
abbrev figs : List V := w_FIGURES.map fV
def core (z : Str) : Str := if inV (.str (cutS z (some (-1)) none)) figs = true then cutS z none (some (-1)) else z
def nb (z : Str) : Bool := (decide (1 ≤ ((core z).length : Int)) && decide (((core z).length : Int) ≤ 8)) && (((core z).cps.toList.map fun c => decide (c ∈ lts.cps.toList)).all id)
theorem core_le {z : Str} {n : Nat} (h : z.length ≤ n) : (core z).length ≤ n := by
  unfold core
  split
  · exact Nat.le_trans (cutS_length z _ _) h
  · exact h
theorem isname_lc {z : Str} {h : Hv} {ok : Hv → Prop} {Q : W → Hv → Prop} {X : XH} {e : Ev} (he : e.length = 3) (hz : z.length ≤ 1000) (hok : ∀ h, ok h)
    (q : Q (.ref h.length) (h ++ [.lst ((z.cps.toList.map fun c => decide (c ∈ lts.cps.toList)).map W.bl)])) : wE (lcL ok (bNm 2) (mB true) (mB2 inM (mVar 2) (mC (.str lts))) h.length e (signs z) (h ++ [.lst []])) Q X := by
  have hl : (signs z).length = z.length := by simp [signs, Str.length]
  refine w_lcL (fun i acc h' => acc = ((z.cps.toList.take i).map fun c => decide (c ∈ lts.cps.toList)).map W.bl ∧ h' = h ++ [.lst acc]) ⟨by simp, rfl⟩ ?_ ?_
  · rintro i w acc h' hw ⟨rfl, rfl⟩
    refine ⟨hok _, _, rfl, ?_⟩
    obtain ⟨c, hc, rfl⟩ : ∃ c, z.cps.toList[i]? = some c ∧ w = .str ⟨#[c]⟩ := by
      unfold signs at hw
      rw [List.getElem?_map] at hw
      obtain ⟨c, hc, e⟩ := Option.map_eq_some_iff.mp hw
      exact ⟨c, hc, e.symm⟩
    have hi : i < z.cps.toList.length := (List.getElem?_eq_some_iff.mp hc).1
    refine ⟨fun _ => ?_, fun q => absurd q (by decide)⟩
    refine w_b2 (w_var (w := .str ⟨#[c]⟩) (by rw [List.getElem?_set_self (by omega)]) (w_c (w_inS1 ?_)))
    have ht : z.cps.toList.take (i + 1) = z.cps.toList.take i ++ [c] := by
      rw [List.take_add_one, hc]; rfl
    refine ⟨at_new, ?_, ?_, ?_⟩
    · rw [List.length_map, List.length_map, List.length_take]
      have : sizeLine = 16777216 := by decide
      have : z.length = z.cps.toList.length := by simp [Str.length]
      omega
    · rw [ht]; simp
    · rw [List.set_append_right _ _ (Nat.le_refl _)]
      simp
  · rintro acc h' ⟨rfl, rfl⟩
    refine ⟨hok _, ?_⟩
    have e : z.cps.toList.take (signs z).length = z.cps.toList := by
      rw [hl]; exact List.take_of_length_le (by simp [Str.length])
    rw [e]; exact q
theorem isname_str {z : Str} {h : Hv} {X : XH} (hz : z.length ≤ 1000) : wE (F_is_name A [.str z] h) (fun r h' => r = .bl (nb z) ∧ Gr h h') X := by
  have hs : z.length ≤ sizeLine := Nat.le_trans hz (by decide)
  unfold F_is_name
  refine w_runB ?_
  show wS (m_is_name A [some (.str z), none, none] h) _ _ _ _ _
  unfold m_is_name
  refine x_seqI (fun e h' => e = [some (.str z), none, none] ∧ h' = h) ?_ ?_
  · repeat get_elem_tactic_trivial
    refine ⟨fun q => absurd q (by decide), fun _ => ?_⟩
    repeat get_elem_tactic_trivial
    exact ⟨rfl, rfl⟩
  rintro e h' ⟨rfl, rfl⟩
  refine x_seqI (fun e h1 => e = [some (.str z), some (.str (core z)), none] ∧ h1 = h') ?_ ?_
  · repeat get_elem_tactic_trivial
    refine w_inF (ws := w_FIGURES) rfl rfl (by decide +kernel) ?_
    repeat get_elem_tactic_trivial
    refine ⟨fun q => ?_, fun q => ?_⟩
    · repeat get_elem_tactic_trivial
      refine ⟨?_, rfl⟩
      have q : inV (V.str (cutS z (some (-1)) none)) figs = true := q
      unfold core; rw [if_pos q]; rfl
    · repeat get_elem_tactic_trivial
      refine ⟨?_, rfl⟩
      have q : inV (V.str (cutS z (some (-1)) none)) figs = false := q
      unfold core; rw [if_neg (by rw [q]; exact Bool.false_ne_true)]; rfl
  rintro e h1 ⟨rfl, rfl⟩
  have hc := core_le hz
  have hcs : (core z).length ≤ sizeLine := Nat.le_trans hc (by decide)
  repeat get_elem_tactic_trivial
  refine ⟨fun q1 => ?_, fun q1 => ?_⟩
  · repeat get_elem_tactic_trivial
    refine ⟨fun q2 => ?_, fun q2 => ?_⟩
    · repeat get_elem_tactic_trivial
      refine isname_lc rfl hc (fun _ => trivial) ?_
      repeat get_elem_tactic_trivial
      refine w_all at_new ?_
      refine ⟨?_, Gr.app⟩
      unfold nb
      rw [q1, q2]; rfl
    · refine ⟨?_, Gr.refl⟩
      unfold nb
      rw [q1, q2]; rfl
  · refine ⟨_, rfl, fun q => absurd q (by decide), fun _ => ⟨?_, Gr.refl⟩⟩
    unfold nb
    rw [q1]; rfl
theorem isname_non {w : W} {t : String} {h : Hv} {X : XH} (ht : tyW h w = some (.type t)) (hk : kitB t "str" = some false) : wE (F_is_name A [w] h) (fun r h' => r = .bl false ∧ Gr h h') X := by
  unfold F_is_name
  refine w_runB ?_
  show wS (m_is_name A [some w, none, none] h) _ _ _ _ _
  unfold m_is_name
  repeat get_elem_tactic_trivial
  refine w_isi ht rfl hk ?_
  repeat get_elem_tactic_trivial
  refine ⟨fun _ => ?_, fun q => absurd q (by decide)⟩
  repeat get_elem_tactic_trivial
  exact ⟨rfl, Gr.refl⟩
theorem inV_sign {c : Nat} {z : Str} : inV (.str ⟨#[c]⟩) ((Z.signs z).map fV) = decide (c ∈ z.cps.toList) := by
  unfold inV Z.signs
  rw [List.map_map, List.any_map, Bool.eq_iff_iff, List.any_eq_true, decide_eq_true_eq]
  constructor
  · rintro ⟨d, hd, e⟩
    have e : ((⟨#[d]⟩ : Str) == ⟨#[c]⟩) = true := e
    have e := eq_of_beq e
    simp at e
    rw [← e]; exact hd
  · intro hd
    exact ⟨c, hd, show ((⟨#[c]⟩ : Str) == ⟨#[c]⟩) = true from beq_self_eq_true _⟩
theorem figs_eq : figs = (Z.signs "23456789").map fV := by with_unfolding_all rfl
theorem last_sign {z : Str} (h : z ≠ "") : ∃ c, atI z.cps.toList (-1) = some c ∧ cutS z (some (-1)) none = ⟨#[c]⟩ := by
  have hl : 0 < z.cps.toList.length := by
    rcases Nat.eq_zero_or_pos z.cps.toList.length with e | e
    · exfalso
      apply h
      have : z.cps = #[] := by
        have := List.length_eq_zero_iff.mp e
        simpa using this
      cases z
      simp at this
      rw [this]; rfl
    · exact e
  have e2 : z.length = z.cps.toList.length := by simp [Str.length]
  refine ⟨z.cps.toList[z.cps.toList.length - 1], ?_, ?_⟩
  · unfold atI ixN
    rw [if_neg (by decide), if_pos (by omega)]
    show z.cps.toList[((-1 : Int) + (z.cps.toList.length : Int)).toNat]? = _
    rw [show ((-1 : Int) + (z.cps.toList.length : Int)).toNat = z.cps.toList.length - 1 by omega]
    exact List.getElem?_eq_getElem (by omega)
  · unfold cutS
    have a1 : HT.sIx z.length 0 (some (-1)) = z.cps.toList.length - 1 := by
      unfold HT.sIx
      simp only
      rw [if_pos (by decide)]
      omega
    have a2 : HT.sIx z.length z.length none = z.cps.toList.length := by
      unfold HT.sIx; exact e2
    rw [a1, a2]
    have a3 : z.cps.toList.drop (z.cps.toList.length - 1) = [z.cps.toList[z.cps.toList.length - 1]] := by
      rw [List.drop_eq_getElem_cons (by omega)]
      rw [List.drop_eq_nil_of_le (by omega)]
    rw [a3]
    have a4 : z.cps.toList.length - (z.cps.toList.length - 1) = 1 := by omega
    rw [a4]; rfl
theorem good_lc {z : Str} {h : Hv} {ok : Hv → Prop} {Q : W → Hv → Prop} {X : XH} {e : Ev} (he : e.length = 3) (hz : z.length ≤ 1000) (hok : ∀ h, ok h)
    (q : ∀ h', h'[h.length]? = some (.lst ((z.cps.toList.map fun c => decide (c ∈ lts.cps.toList)).map W.bl)) → Gr h h' → Q (.ref h.length) h') : wE (lcL ok (bNm 2) (mB true) (mB2 inM (mVar 2) (mG listM (mCons (mC (.str lts)) mNil))) h.length e (Z.signs z) (h ++ [.lst []])) Q X := by
  have hl : (Z.signs z).length = z.length := by simp [Z.signs, Str.length]
  refine w_lcL (fun i acc h' => acc = ((z.cps.toList.take i).map fun c => decide (c ∈ lts.cps.toList)).map W.bl ∧ h'[h.length]? = some (.lst acc) ∧ Gr h h') ⟨by simp, at_new, Gr.app⟩ ?_ ?_
  · rintro i w acc h' hw ⟨rfl, hD, hG⟩
    refine ⟨hok _, _, rfl, ?_⟩
    obtain ⟨c, hc, rfl⟩ : ∃ c, z.cps.toList[i]? = some c ∧ w = .str ⟨#[c]⟩ := by
      unfold Z.signs at hw
      rw [List.getElem?_map] at hw
      obtain ⟨c, hc, e⟩ := Option.map_eq_some_iff.mp hw
      exact ⟨c, hc, e.symm⟩
    have hi : i < z.cps.toList.length := (List.getElem?_eq_some_iff.mp hc).1
    refine ⟨fun _ => ?_, fun q => absurd q (by decide)⟩
    refine w_b2 (w_var (w := .str ⟨#[c]⟩) (by rw [List.getElem?_set_self (by omega)]) (w_G (w_cons (w_c (w_nil (w_listS (by decide +kernel) (w_inF (seqLT_of at_new) rfl (by decide +kernel) ?_)))))))
    rw [show fV (W.str ⟨#[c]⟩) = V.str ⟨#[c]⟩ from rfl, inV_sign]
    have ht : z.cps.toList.take (i + 1) = z.cps.toList.take i ++ [c] := by
      rw [List.take_add_one, hc]; rfl
    have hD2 := at_app (o := .lst (Z.signs lts)) hD
    refine ⟨hD2, ?_, ?_, ?_, ?_⟩
    · rw [List.length_map, List.length_map, List.length_take]
      have : sizeLine = 16777216 := by decide
      have : z.length = z.cps.toList.length := by simp [Str.length]
      omega
    · rw [ht]; simp
    · exact at_set hD2
    · intro r v e
      have : r < h.length := at_lt e
      exact at_ne (by omega) (at_app (hG r v e))
  · rintro acc h' ⟨rfl, hD, hG⟩
    refine ⟨hok _, ?_⟩
    have e : z.cps.toList.take (Z.signs z).length = z.cps.toList := by
      rw [hl]; exact List.take_of_length_le (by simp [Str.length])
    rw [e] at hD; exact q h' hD hG
theorem good_str {z : Str} {h : Hv} {X : XH} (hz : z.length ≤ 1000) : wE (F_law_good_name A [.str z] h) (fun r h' => r = .bl (nb z) ∧ Gr h h') X := by
  have hs : z.length ≤ sizeLine := Nat.le_trans hz (by decide)
  unfold F_law_good_name
  refine w_runB ?_
  show wS (m_law_good_name A [some (.str z), none, none] h) _ _ _ _ _
  unfold m_law_good_name
  refine x_seqI (fun e h' => z ≠ "" ∧ e = [some (.str z), none, none] ∧ h' = h) ?_ ?_
  · repeat get_elem_tactic_trivial
    refine ⟨fun _ => ?_, fun q => absurd q (by decide)⟩
    repeat get_elem_tactic_trivial
    refine ⟨fun q => ?_, fun q => ?_⟩
    · repeat get_elem_tactic_trivial
      have := of_decide_eq_true q
      subst this
      exact ⟨by rw [show nb "" = false by decide +kernel], Gr.refl⟩
    · repeat get_elem_tactic_trivial
      exact ⟨of_decide_eq_false q, rfl, rfl⟩
  rintro e h' ⟨hne, rfl, rfl⟩
  obtain ⟨c, e1, e2⟩ := last_sign hne
  refine x_seq ?_
  iterate 3 get_elem_tactic_trivial
  refine x_seqI (fun e h1 => e = [some (.str z), some (.str (core z)), none] ∧ h1 = h' ++ [.lst (Z.signs "23456789")]) ?_ ?_
  · repeat get_elem_tactic_trivial
    refine w_ixAS hs e1 ?_
    repeat get_elem_tactic_trivial
    refine w_listS (by decide +kernel) (w_inF (seqLT_of at_new) rfl (by decide +kernel) ?_)
    have eC : inV (V.str (cutS z (some (-1)) none)) figs = inV (fV (W.str ⟨#[c]⟩)) ((Z.signs "23456789").map fV) := by rw [e2, figs_eq]; rfl
    repeat get_elem_tactic_trivial
    refine ⟨fun q => ?_, fun q => ?_⟩
    · repeat get_elem_tactic_trivial
      refine ⟨?_, rfl⟩
      unfold core; rw [eC, if_pos q]; rfl
    · repeat get_elem_tactic_trivial
      refine ⟨?_, rfl⟩
      unfold core; rw [eC, if_neg (by rw [q]; exact Bool.false_ne_true)]; rfl
  rintro e h1 ⟨rfl, rfl⟩
  have hc := core_le hz
  have hcs : (core z).length ≤ sizeLine := Nat.le_trans hc (by decide)
  repeat get_elem_tactic_trivial
  refine ⟨fun q1 => ?_, fun q1 => ?_⟩
  · repeat get_elem_tactic_trivial
    refine ⟨fun q2 => ?_, fun q2 => ?_⟩
    · repeat get_elem_tactic_trivial
      refine good_lc rfl hc (fun _ => trivial) fun h2 hD hG => ?_
      repeat get_elem_tactic_trivial
      refine w_all hD ?_
      refine ⟨?_, Gr.app.trans hG⟩
      unfold nb
      rw [q1, q2]; rfl
    · refine ⟨?_, Gr.app⟩
      unfold nb
      rw [q1, q2]; rfl
  · refine ⟨_, rfl, fun q => absurd q (by decide), fun _ => ⟨?_, Gr.app⟩⟩
    unfold nb
    rw [q1]; rfl
theorem good_non {w : W} {t : String} {h : Hv} {X : XH} (ht : tyW h w = some (.type t)) (hk : kitB t "str" = some false) : wE (F_law_good_name A [w] h) (fun r h' => r = .bl false ∧ Gr h h') X := by
  unfold F_law_good_name
  refine w_runB ?_
  show wS (m_law_good_name A [some w, none, none] h) _ _ _ _ _
  unfold m_law_good_name
  repeat get_elem_tactic_trivial
  refine w_isi ht rfl hk ?_
  repeat get_elem_tactic_trivial
  refine ⟨fun q => absurd q (by decide), fun _ => ?_⟩
  repeat get_elem_tactic_trivial
  refine ⟨fun _ => ?_, fun q => absurd q (by decide)⟩
  repeat get_elem_tactic_trivial
  exact ⟨rfl, Gr.refl⟩
end K02
namespace K02
open PySem L2 Z
variable {A : Ad}
local macro_rules | `(tactic| get_elem_tactic_trivial) => `(tactic| with_reducible first
  | refine x_seq ?_ | refine x_asg ?_ | refine x_if ?_ | refine x_exp ?_ | refine x_ret ?_ | refine x_nm ?_ | refine x_nx ?_ | refine x_rt ?_ | refine x_tp rfl ?_ | refine x_gcons ?_ | refine x_gnil ?_
  | refine x_nxo ?_ | refine x_subM ?_ | refine w_par ?_
  | refine w_b2 ?_ | refine w_u1 ?_ | refine w_c ?_ | refine w_nil ?_ | refine w_cons ?_ | refine w_G ?_ | refine w_F ?_ | refine w_Kw ?_ | refine w_tup ?_ | refine w_lst ?_ | refine w_test ?_ | refine w_notT ?_ | refine w_andT ?_ | refine w_orT ?_
  | refine w_andV ?_ | refine w_orV ?_ | refine w_notV ?_ | refine w_if ?_ | refine w_append' ?_ | refine w_chain ?_
  | refine w_add ?_ | refine w_sub ?_ | refine w_lt ?_ | refine w_le ?_ | refine w_gt ?_ | refine w_ge ?_ | refine w_neg ?_ | refine w_abs ?_ | refine w_max2 ?_ | refine w_min2 ?_
  | refine w_eqI ?_ | refine w_neI ?_ | refine w_eqB ?_ | refine w_neB ?_ | refine w_eqS ?_ | refine w_neS ?_ | refine w_isi rfl rfl rfl ?_
  | refine w_sl ?_ | refine w_no ?_ | refine w_part ?_ | refine w_it ?_ | refine w_srcS ?_ | refine w_srcT ?_ | refine w_rg1 ?_ | refine w_lc ?_ | refine w_join ?_ | refine w_rev ?_
  | refine w_var (by with_unfolding_all rfl) ?_
  | refine w_ixA (seqLT_of (by assumption)) (by with_unfolding_all rfl) ?_
  | refine w_ixAT (by with_unfolding_all rfl) ?_
  | refine w_srcL (by assumption) ?_
  | refine w_slS (by assumption) ?_
  | refine w_lenS (by assumption) ?_
  | refine set_ok (by assumption) (by with_unfolding_all rfl) ?_
  | refine w_mod (by first | assumption | omega) ?_
  | refine w_fdiv' (by omega) (by omega) ?_
  | refine w_mulR (by omega) (by omega) ?_ | refine w_mulL (by omega) (by omega) ?_
  | refine w_pow' (by omega) (by omega) (by omega) ?_
  | refine ⟨_, rfl, ?_⟩ | refine ⟨le_sz (by with_unfolding_all rfl), ?_⟩ | refine ⟨(by with_unfolding_all rfl : List.length _ = _), ?_⟩)
/-! ### what is drawn -/
abbrev fgs : Str := "23456789"
def one (c : Nat) : Str := ⟨#[c]⟩
theorem cut_last {z : Str} {cs : List Nat} {c : Nat} (h : z.cps.toList = cs ++ [c]) : cutS z (some (-1)) none = one c ∧ cutS z none (some (-1)) = ⟨cs.toArray⟩ := by
  have e2 : z.length = cs.length + 1 := by
    have : z.length = z.cps.toList.length := by simp [Str.length]
    rw [this, h]; simp
  have a1 : HT.sIx z.length 0 (some (-1)) = cs.length := by
    unfold HT.sIx
    simp only
    rw [if_pos (by decide)]; omega
  have a2 : HT.sIx z.length z.length none = cs.length + 1 := e2
  have a3 : HT.sIx z.length z.length (some (-1)) = cs.length := by
    unfold HT.sIx
    simp only
    rw [if_pos (by decide)]; omega
  have a4 : HT.sIx z.length 0 none = 0 := rfl
  constructor
  · unfold cutS one
    rw [a1, a2, h]
    simp
  · unfold cutS
    rw [a3, a4, h]
    simp
theorem nb_of {z : Str} {cs : List Nat} {c : Nat} (h : z.cps.toList = cs ++ [c]) (hcs : ∀ x ∈ cs, x ∈ lts.cps.toList) (hc : (c ∈ lts.cps.toList ∧ cs.length + 1 ≤ 8) ∨ (c ∈ fgs.cps.toList ∧ 1 ≤ cs.length ∧ cs.length ≤ 8)) : nb z = true := by
  obtain ⟨e1, e2⟩ := cut_last h
  have e3 : inV (V.str (cutS z (some (-1)) none)) figs = decide (c ∈ fgs.cps.toList) := by
    rw [e1, figs_eq]; exact inV_sign
  have el : z.length = cs.length + 1 := by
    have : z.length = z.cps.toList.length := by simp [Str.length]
    rw [this, h]; simp
  have dj : ∀ x ∈ lts.cps.toList, x ∉ fgs.cps.toList := by decide +kernel
  rcases hc with ⟨c1, c2⟩ | ⟨c1, c2, c3⟩
  · have ec : core z = z := by
      unfold core
      rw [e3, if_neg (by simp [dj c c1])]
    unfold nb
    rw [ec, h, el]
    simp only [Bool.and_eq_true, decide_eq_true_eq, List.all_eq_true, List.mem_map]
    refine ⟨⟨by omega, by omega⟩, ?_⟩
    rintro b ⟨x, hx, rfl⟩
    rcases List.mem_append.mp hx with hx | hx
    · exact decide_eq_true (hcs x hx)
    · rw [List.mem_singleton.mp hx]; exact decide_eq_true c1
  · have ec : core z = ⟨cs.toArray⟩ := by
      unfold core
      rw [e3, if_pos (decide_eq_true c1), e2]
    unfold nb
    rw [ec]
    have el2 : (⟨cs.toArray⟩ : Str).length = cs.length := by simp [Str.length]
    rw [el2]
    simp only [Bool.and_eq_true, decide_eq_true_eq, List.all_eq_true, List.mem_map]
    refine ⟨⟨by omega, by omega⟩, ?_⟩
    rintro b ⟨x, hx, rfl⟩
    exact decide_eq_true (hcs x (by simpa using hx))
/-- all but b stand -/
def GrX (b : Nat) (h h' : Hv) : Prop := ∀ (r : Nat) (v : AO), r ≠ b → h[r]? = some v → h'[r]? = some v
theorem GrX.refl {b : Nat} {h : Hv} : GrX b h h := fun _ _ _ e => e
theorem GrX.trans {b : Nat} {h h' h'' : Hv} (a : GrX b h h') (c : GrX b h' h'') : GrX b h h'' := fun r v n e => c r v n (a r v n e)
theorem GrX.app {b : Nat} {h : Hv} {o : AO} : GrX b h (h ++ [o]) := fun _ _ _ e => at_app e
theorem GrX.gr {b : Nat} {h h' : Hv} (g : Gr h h') : GrX b h h' := fun r v _ e => g r v e
theorem Fr.grx {b : Nat} {h h' : Hv} (f : Fr b h h') : GrX b h h' := fun r v n e => (f.2 r n).trans e
theorem bag_app {h : Hv} {b : Nat} {o : AO} (a : Bag h b) : Bag (h ++ [o]) b := by
  obtain ⟨g, x, e, r⟩ := a
  exact ⟨g, x, at_app e, r⟩
theorem bag_set {h : Hv} {b k : Nat} {o : AO} (d : k ≠ b) (a : Bag h b) : Bag (h.set k o) b := by
  obtain ⟨g, x, e, r⟩ := a
  exact ⟨g, x, at_ne d e, r⟩
theorem bag_gr {h h' : Hv} {b : Nat} (g : Gr h h') (a : Bag h b) : Bag h' b := by
  obtain ⟨g1, x, e, r⟩ := a
  exact ⟨g1, x, g _ _ e, r⟩
theorem bag_lt {h : Hv} {b : Nat} (a : Bag h b) : b < h.length := by
  obtain ⟨g1, x, e, r⟩ := a
  exact at_lt e
theorem take_x {b : Nat} {n : Int} {h : Hv} {X : XH} (hb : Bag h b) (hn : 0 < n) (hn2 : n < 1000000) :
    wE (F_law_take A [.ref b, .int n] h) (fun w h' => ∃ d : Int, w = .int d ∧ (0 ≤ d ∧ d < n) ∧ Bag h' b ∧ GrX b h h') X := (take_ok hb hn hn2).imp fun w h' ⟨d, e, d1, d2, g, f⟩ => ⟨d, e, ⟨d1, d2⟩, g, Fr.grx f⟩
/-- a sign of a text, by a draw -/
theorem sign_at {z : Str} {d : Int} (h0 : 0 ≤ d) (h : d < z.length) : ∃ c, c ∈ z.cps.toList ∧ atI z.cps.toList d = some c := by
  have hl : d.toNat < z.cps.toList.length := by
    have : z.length = z.cps.toList.length := by simp [Str.length]
    omega
  exact ⟨z.cps.toList[d.toNat], List.getElem_mem hl, Z.atI_int h0 (List.getElem?_eq_getElem hl)⟩
theorem join_ones (cs : List Nat) : (Txt.join "" (cs.map one)).cps.toList = cs := by
  rw [TL.join_eq]
  have e := TL.tl_join "" (cs.map one)
  have e2 : ∀ l : List Nat, TL.joinL (TL.tl "") ((l.map one).map TL.tl) = l := fun l => by
    induction l with
    | nil => rfl
    | cons c l ih =>
      cases l with
      | nil => rfl
      | cons d l => exact congrArg (c :: ·) ih
  rw [e2] at e
  exact e
theorem lts26 : ((lts.length : Nat) : Int) = 26 := by decide +kernel
theorem fgs8 : ((fgs.length : Nat) : Int) = 8 := by decide +kernel
theorem drawn_ok {b : Nat} {h : Hv} {X : XH} (hb : Bag h b) : wE (F_law_drawn_name A [.ref b] h) (fun w h' => ∃ z, w = .str z ∧ z.length ≤ 9 ∧ (∀ c ∈ z.cps.toList, c < 16 ^ 8) ∧ nb z = true ∧ Bag h' b ∧ GrX b h h') X := by
  have chars : ∀ c ∈ lts.cps.toList ++ fgs.cps.toList, c < 16 ^ 8 := by decide +kernel
  unfold F_law_drawn_name
  refine w_runB ?_
  show wS (m_law_drawn_name A [some (.ref b), none, none, none] h) _ _ _ _ _
  unfold m_law_drawn_name
  refine x_seq ?_
  iterate 3 get_elem_tactic_trivial
  refine x_seqI (fun e h' => ∃ (z : Str) (cs : List Nat) (c : Nat), e = [some (.ref b), some (.str lts), some (.str z), none] ∧ z.cps.toList = cs ++ [c] ∧ (∀ x ∈ cs ++ [c], x ∈ lts.cps.toList) ∧ cs.length + 1 ≤ 8 ∧ Bag h' b ∧ GrX b h h') ?_ ?_
  · repeat get_elem_tactic_trivial
    refine (take_x hb (by omega) (by omega)).imp ?_
    rintro w h1 ⟨d, rfl, ⟨hd0, hd1⟩, hb1, g1⟩
    repeat get_elem_tactic_trivial
    refine ⟨⟨by omega, by omega⟩, ?_⟩
    have hDb : h1.length ≠ b := fun e => absurd (bag_lt hb1) (by omega)
    show wE (lcL _ (bNm 3) (mB true) _ h1.length [some (.ref b), some (.str lts), none, none] _ _) _ _
    refine w_lcL (fun i acc h' => ∃ cs : List Nat, acc = (cs.map one).map W.str ∧ cs.length = i ∧ (∀ x ∈ cs, x ∈ lts.cps.toList) ∧ h'[h1.length]? = some (.lst acc) ∧ Bag h' b ∧ GrX b h1 h') ⟨[], rfl, rfl, by simp, at_new, bag_app hb1, GrX.app⟩ ?_ ?_
    · rintro i w acc h' hw ⟨cs, rfl, rfl, hcs, hD, hb2, g2⟩
      refine ⟨trivial, _, rfl, ⟨fun _ => ?_, fun q => absurd q (by decide)⟩⟩
      have hi : cs.length < 8 := by
        have := (List.getElem?_eq_some_iff.mp hw).1
        simp [Z.intsFrom] at this
        omega
      show wE (mB2 ixA (mVar 1) _ [some (.ref b), some (.str lts), none, some w] h') _ _
      repeat get_elem_tactic_trivial
      refine (take_x hb2 (by omega) (by omega)).imp ?_
      rintro w h3 ⟨d3, rfl, ⟨hd3, hd4⟩, hb3, g3⟩
      obtain ⟨c, hc, ec⟩ := sign_at (z := lts) (d := d3) hd3 (by rw [lts26]; omega)
      refine w_ixAS (by decide +kernel) ec ?_
      have hD3 := g3 _ _ hDb hD
      refine ⟨hD3, ?_, cs ++ [c], by simp [one], by simp, ?_, at_set hD3, bag_set hDb hb3, ?_⟩
      · rw [List.length_map, List.length_map]
        have : sizeLine = 16777216 := by decide
        omega
      · intro x hx
        rcases List.mem_append.mp hx with hx | hx
        · exact hcs x hx
        · rw [List.mem_singleton.mp hx]; exact hc
      · intro r v n e
        have : r < h1.length := at_lt e
        exact at_ne (by omega) (g3 r v n (g2 r v n e))
    · rintro acc h' ⟨cs, rfl, hl, hcs, hD, hb2, g2⟩
      have hl2 : cs.length = (1 + d).toNat := by rw [hl]; simp [Z.intsFrom]
      refine ⟨trivial, h1.length, cs.map one, rfl, hD, ?_, ?_⟩
      · have : ((cs.map one).map (·.length)).sum = cs.length := by
          clear hl2 hl hD hcs
          induction cs with
          | nil => rfl
          | cons c l ih =>
            have e1 : (one c).length = 1 := rfl
            simp only [List.map_cons, List.sum_cons, List.length_cons, e1, ih]
            omega
        rw [this, List.length_map, show ("" : Str).length = 0 by decide]
        omega
      · obtain ⟨l, c, rfl⟩ : ∃ l c, cs = l ++ [c] := by
          rcases List.eq_nil_or_concat cs with e | ⟨l, c, e⟩
          · subst e; simp at hl2; omega
          · exact ⟨l, c, by simpa using e⟩
        refine ⟨_, l, c, rfl, join_ones _, hcs, ?_, hb2, g1.trans g2⟩
        simp at hl2; omega
  rintro e h1 ⟨z, cs, c, rfl, hz, hcs, hl, hb1, g1⟩
  have hzl : z.length = cs.length + 1 := by
    have : z.length = z.cps.toList.length := by simp [Str.length]
    rw [this, hz]; simp
  repeat get_elem_tactic_trivial
  refine (take_x hb1 (by omega) (by omega)).imp ?_
  rintro w h2 ⟨d, rfl, ⟨hd0, hd1⟩, hb2, g2⟩
  obtain ⟨f, hf, ef⟩ := sign_at (z := fgs) (d := d) hd0 (by rw [fgs8]; omega)
  refine w_ixAS (by decide +kernel) ef ?_
  repeat get_elem_tactic_trivial
  refine (take_x (bag_app hb2) (by omega) (by omega)).imp ?_
  rintro w h3 ⟨d3, rfl, ⟨hd3, hd4⟩, hb3, g3⟩
  have hl2 : h2.length ≠ b := fun e => absurd (bag_lt hb2) (by omega)
  have e3 := g3 _ _ hl2 at_new
  have G := g1.trans (g2.trans (GrX.app.trans g3))
  have : d3 = 0 ∨ d3 = 1 := by omega
  rcases this with rfl | rfl
  · refine w_ixA (seqLT_of e3) rfl (w_catS ?_ ?_)
    · have : sizeLine = 16777216 := by decide
      have : ("" : Str).length = 0 := by decide
      omega
    · have ez : (z ++ "" : Str).cps.toList = cs ++ [c] := by rw [← hz]; simp [Str.cps_append]; rfl
      refine ⟨_, rfl, ?_, ?_, ?_, hb3, G⟩
      · rw [Str.length_append, show ("" : Str).length = 0 by decide]; omega
      · intro x hx; rw [ez] at hx; exact chars x (List.mem_append_left _ (hcs x hx))
      · exact nb_of ez (fun x hx => hcs x (List.mem_append_left _ hx)) (.inl ⟨hcs c (by simp), hl⟩)
  · refine w_ixA (seqLT_of e3) rfl (w_catS ?_ ?_)
    · have : sizeLine = 16777216 := by decide
      have : (one f).length = 1 := rfl
      show z.length + (one f).length ≤ sizeLine
      omega
    · have ez : (z ++ one f : Str).cps.toList = (cs ++ [c]) ++ [f] := by rw [← hz]; simp [Str.cps_append, one]
      refine ⟨_, rfl, ?_, ?_, ?_, hb3, G⟩
      · show (z ++ one f : Str).length ≤ 9
        rw [Str.length_append, show (one f).length = 1 from rfl]; omega
      · intro x hx
        have hx : x ∈ (z ++ one f : Str).cps.toList := hx
        rw [ez] at hx
        rcases List.mem_append.mp hx with hx | hx
        · exact chars x (List.mem_append_left _ (hcs x hx))
        · rw [List.mem_singleton.mp hx]; exact chars f (List.mem_append_right _ hf)
      · exact nb_of ez hcs (.inr ⟨hf, by simp, by simp; omega⟩)
end K02
namespace K02
open PySem L2 Z
variable {A : Ad}
local macro_rules | `(tactic| get_elem_tactic_trivial) => `(tactic| with_reducible first
  | refine x_seq ?_ | refine x_asg ?_ | refine x_if ?_ | refine x_exp ?_ | refine x_ret ?_ | refine x_nm ?_ | refine x_nx ?_ | refine x_rt ?_ | refine x_tp rfl ?_ | refine x_gcons ?_ | refine x_gnil ?_
  | refine x_nxo ?_ | refine x_subM ?_ | refine w_par ?_
  | refine w_b2 ?_ | refine w_u1 ?_ | refine w_c ?_ | refine w_nil ?_ | refine w_cons ?_ | refine w_G ?_ | refine w_F ?_ | refine w_Kw ?_ | refine w_tup ?_ | refine w_lst ?_ | refine w_test ?_ | refine w_notT ?_ | refine w_andT ?_ | refine w_orT ?_
  | refine w_andV ?_ | refine w_orV ?_ | refine w_notV ?_ | refine w_if ?_ | refine w_append' ?_ | refine w_chain ?_
  | refine w_add ?_ | refine w_sub ?_ | refine w_lt ?_ | refine w_le ?_ | refine w_gt ?_ | refine w_ge ?_ | refine w_neg ?_ | refine w_abs ?_ | refine w_max2 ?_ | refine w_min2 ?_
  | refine w_eqI ?_ | refine w_neI ?_ | refine w_eqB ?_ | refine w_neB ?_ | refine w_eqS ?_ | refine w_neS ?_ | refine w_isi rfl rfl rfl ?_
  | refine w_sl ?_ | refine w_no ?_ | refine w_part ?_ | refine w_it ?_ | refine w_srcS ?_ | refine w_srcT ?_ | refine w_rg1 ?_ | refine w_lc ?_ | refine w_join ?_ | refine w_rev ?_
  | refine w_var (by with_unfolding_all rfl) ?_
  | refine w_ixA (seqLT_of (by assumption)) (by with_unfolding_all rfl) ?_
  | refine w_ixAT (by with_unfolding_all rfl) ?_
  | refine w_srcL (by assumption) ?_
  | refine w_slS (by assumption) ?_
  | refine w_lenS (by assumption) ?_
  | refine set_ok (by assumption) (by with_unfolding_all rfl) ?_
  | refine w_mod (by first | assumption | omega) ?_
  | refine w_fdiv' (by omega) (by omega) ?_
  | refine w_mulR (by omega) (by omega) ?_ | refine w_mulL (by omega) (by omega) ?_
  | refine w_pow' (by omega) (by omega) (by omega) ?_
  | refine ⟨_, rfl, ?_⟩ | refine ⟨le_sz (by with_unfolding_all rfl), ?_⟩ | refine ⟨(by with_unfolding_all rfl : List.length _ = _), ?_⟩)
/-- a short text of signs -/
def SmS (n : Nat) (z : Str) : Prop := z.length ≤ n ∧ ∀ c ∈ z.cps.toList, c < 16 ^ 8
theorem SmS.le {n m : Nat} {z : Str} (a : SmS n z) (h : n ≤ m) : SmS m z := ⟨Nat.le_trans a.1 h, a.2⟩
theorem SmS.cut {n : Nat} {z : Str} {l u : Option Int} (a : SmS n z) : SmS n (cutS z l u) := by
  refine ⟨Nat.le_trans (cutS_length z l u) a.1, fun c hc => a.2 c ?_⟩
  unfold cutS at hc
  exact List.mem_of_mem_drop (List.mem_of_mem_take hc)
theorem SmS.cat {n m : Nat} {z y : Str} (a : SmS n z) (b : SmS m y) : SmS (n + m) (z ++ y) := by
  refine ⟨by rw [Str.length_append]; exact Nat.add_le_add a.1 b.1, fun c hc => ?_⟩
  rw [Str.cps_append, Array.toList_append] at hc
  exact (List.mem_append.mp hc).elim (a.2 c) (b.2 c)
theorem SmS.rev {n : Nat} {z : Str} (a : SmS n z) : SmS n (revS z) := by
  refine ⟨Nat.le_trans (revS_len z) a.1, fun c hc => a.2 c ?_⟩
  unfold revS at hc
  obtain ⟨k, _, hk⟩ : ∃ k, k < z.length ∧ z.cps[z.length - 1 - k]? = some c := by simpa using hc
  rw [← Array.getElem?_toList] at hk
  exact List.mem_of_getElem? hk
theorem SmS.ln {n : Nat} {z : Str} (a : SmS n z) (h : n ≤ 1000) : z.length ≤ sizeLine := Nat.le_trans a.1 (Nat.le_trans h (by decide))
theorem w_catSm {n m : Nat} {a b : Str} {h : Hv} {Q : W → Hv → Prop} {X : XH} (sa : SmS n a) (sb : SmS m b) (hn : n + m ≤ 1000) (q : SmS (n + m) (a ++ b) → Q (.str (a ++ b)) h) : wE (addM (.str a) (.str b) h) Q X :=
  w_catS (Nat.le_trans (Nat.add_le_add sa.1 sb.1) (Nat.le_trans hn (by decide))) (q (sa.cat sb))
theorem repr_sm {z : Str} (a : SmS 100 z) : ReprOk (.str z) := by
  refine reprOk_of (by simp [PyData.showable]) (by simp [PyData.hasDict]) (by simp [PyData.depth]) ?_
  show (reprText z).length ≤ sizeLine
  have := PySem.StrLaws.reprText_len z a.2
  have : sizeLine = 16777216 := by decide
  have := a.1
  omega
/-- a thing like a name, or one of another kind; b: the bag -/
inductive Ok (b : Nat) (h : Hv) : W → Prop where
  | str {z : Str} : SmS 100 z → Ok b h (.str z)
  | flat {w : W} {t : String} {d : PyData} : (∀ h, tyW h w = some (.type t)) → kitB t "str" = some false → (∀ h, toD h 60 w = some d) → ReprOk d → Ok b h w
  | lst {r : Nat} {l : List W} {ds : List PyData} : r ≠ b → h[r]? = some (.lst l) → (∀ h, toDs (toD h 59) l = some ds) → ReprOk (.list ds) → Ok b h (.ref r)
theorem Ok.mono {b : Nat} {h h' : Hv} {w : W} (g : GrX b h h') (a : Ok b h w) : Ok b h' w := by
  cases a with
  | str s => exact .str s
  | flat a1 a2 a3 a4 => exact .flat a1 a2 a3 a4
  | lst n e a3 a4 => exact .lst n (g _ _ n e) a3 a4
theorem Ok.data {b : Nat} {h : Hv} {w : W} (a : Ok b h w) : ∃ d, ReprOk d ∧ ∀ h', GrX b h h' → toD h' 60 w = some d := by
  cases a with
  | str s => exact ⟨_, repr_sm s, fun h' _ => rfl⟩
  | flat a1 a2 a3 a4 => exact ⟨_, a4, fun h' _ => a3 h'⟩
  | @lst r l ds n e a3 a4 =>
    refine ⟨_, a4, fun h' g => ?_⟩
    show (match lstAt h' r with
      | some ws => (toDs (toD h' 59) ws).map PyData.list
      | none => none) = _
    rw [lstAt_of (g _ _ n e)]
    show (toDs (toD h' 59) l).map PyData.list = _
    rw [a3 h']; rfl
/-- what both looks say -/
theorem Ok.says {b : Nat} {h : Hv} {w : W} (a : Ok b h w) : ∃ k : Bool, (∀ h' X, GrX b h h' → wE (F_is_name A [w] h') (fun r h2 => r = .bl k ∧ Gr h' h2) X) ∧ ∀ h' X, GrX b h h' → wE (F_law_good_name A [w] h') (fun r h2 => r = .bl k ∧ Gr h' h2) X := by
  cases a with
  | @str z s => exact ⟨nb z, fun h' X _ => isname_str (Nat.le_trans s.1 (by decide)), fun h' X _ => good_str (Nat.le_trans s.1 (by decide))⟩
  | flat a1 a2 a3 a4 => exact ⟨false, fun h' X _ => isname_non (a1 h') a2, fun h' X _ => good_non (a1 h') a2⟩
  | @lst r l ds n e a3 a4 =>
    have ty : ∀ h', GrX b h h' → tyW h' (.ref r) = some (.type "list") := fun h' g => by
      have q := g _ _ n e
      show (match h'[r]? with
        | some (.lst _) => some (Value.type "list")
        | some (.dk _) => some (Value.type "dict")
        | some (.ins C _) => some (Value.ref C)
        | _ => none) = _
      rw [q]
    exact ⟨false, fun h' X g => isname_non (ty h' g) rfl, fun h' X g => good_non (ty h' g) rfl⟩
theorem small_repr {d : PyData} (h1 : d.showable = true) (h2 : d.hasDict = false) (h3 : d.depth ≤ 61) (h4 : bndD d ≤ 100000) : ReprOk d := reprOk_of h1 h2 h3 (Nat.le_trans h4 (by decide))
theorem odd_ok {b : Nat} {z : Str} {h : Hv} {X : XH} (hb : Bag h b) (hz : SmS 9 z) : wE (F_law_odd_name A [.ref b, .str z] h) (fun w h' => Ok b h' w ∧ Bag h' b ∧ GrX b h h') X := by
  have hzl := hz.ln (by decide)
  unfold F_law_odd_name
  refine w_runB ?_
  show wS (m_law_odd_name A [some (.ref b), some (.str z), none, none, none, none] h) _ _ _ _ _
  unfold m_law_odd_name
  refine x_seq ?_
  iterate 3 get_elem_tactic_trivial
  refine x_seqI (fun e h' => ∃ (y : Str) (p : Int), e = [some (.ref b), some (.str z), some (.str "abz0123456789 AZ-_.,"), some (.str y), some (.int p), none] ∧ SmS 1 y ∧ Bag h' b ∧ GrX b h h') ?_ ?_
  · repeat get_elem_tactic_trivial
    refine (take_x hb (by omega) (by omega)).imp ?_
    rintro w h1 ⟨d, rfl, ⟨hd0, hd1⟩, hb1, g1⟩
    have e20 : ((("abz0123456789 AZ-_.," : Str).length : Nat) : Int) = 20 := by decide +kernel
    obtain ⟨c, hc, ec⟩ := sign_at (z := "abz0123456789 AZ-_.,") (d := d) hd0 (by rw [e20]; omega)
    refine w_ixAS (by decide +kernel) ec ?_
    repeat get_elem_tactic_trivial
    have := hz.1
    refine (take_x hb1 (by omega) (by omega)).imp ?_
    rintro w h2 ⟨p, rfl, _, hb2, g2⟩
    repeat get_elem_tactic_trivial
    refine ⟨one c, p, rfl, ⟨Nat.le_refl 1, fun x hx => ?_⟩, hb2, g1.trans g2⟩
    have : x = c := by simpa [one] using hx
    rw [this]
    exact (by decide +kernel : ∀ c ∈ ("abz0123456789 AZ-_.," : Str).cps.toList, c < 16 ^ 8) c hc
  rintro e h1 ⟨y, p, rfl, hy, hb1, g1⟩
  have c1 : ∀ l u, (cutS z l u).length ≤ sizeLine := fun l u => hz.cut.ln (by decide)
  -- the first three
  refine x_seqI (fun e h' => ∃ z1 z2 z3, e = [some (.ref b), some (.str z), some (.str "abz0123456789 AZ-_.,"), some (.str y), some (.int p), some (.ref h1.length)] ∧ h' = h1 ++ [.lst [.str z1, .str z2, .str z3]] ∧ SmS 100 z1 ∧ SmS 100 z2 ∧ SmS 100 z3) ?_ ?_
  · repeat get_elem_tactic_trivial
    refine w_catSm (hz.cut) hy (by decide) fun s1 => ?_
    repeat get_elem_tactic_trivial
    refine w_catSm s1 (hz.cut) (by decide) fun s2 => ?_
    repeat get_elem_tactic_trivial
    refine w_catSm (hz.cut) (hz.cut) (by decide) fun s3 => ?_
    repeat get_elem_tactic_trivial
    refine w_catSm (hz.cut) hy (by decide) fun s4 => ?_
    repeat get_elem_tactic_trivial
    refine w_catSm s4 (hz.cut) (by decide) fun s5 => ?_
    repeat get_elem_tactic_trivial
    exact ⟨_, _, _, rfl, rfl, s2.le (by decide), s3.le (by decide), s5.le (by decide)⟩
  rintro e h2 ⟨z1, z2, z3, rfl, rfl, k1, k2, k3⟩
  have lt1 := bag_lt hb1
  have nb1 : h1.length ≠ b := by omega
  -- the fourth
  refine x_seqI (fun e h' => ∃ z4, e = [some (.ref b), some (.str z), some (.str "abz0123456789 AZ-_.,"), some (.str y), some (.int p), some (.ref h1.length)] ∧ h'[h1.length]? = some (.lst [.str z1, .str z2, .str z3, .str z4]) ∧ SmS 100 z4 ∧ Bag h' b ∧ GrX b h h') ?_ ?_
  · iterate 3 get_elem_tactic_trivial
    refine ⟨_, _, rfl, at_new, ?_⟩
    repeat get_elem_tactic_trivial
    refine ⟨c1 _ _, ?_⟩
    refine w_catSm (hz.cut) (hz.cut.rev) (by decide) fun s1 => ?_
    repeat get_elem_tactic_trivial
    refine w_catSm s1 (hz.cut) (by decide) fun s2 => ?_
    repeat get_elem_tactic_trivial
    refine ⟨_, _, rfl, at_new, Nat.lt_of_lt_of_le (Nat.lt_succ_self 3) (le_sz rfl), _, rfl, at_set at_new, s2.le (by decide), bag_set nb1 (bag_app hb1), fun r v n e => ?_⟩
    have e := g1 r v n e
    have : r < h1.length := at_lt e
    exact at_ne (by omega) (at_app e)
  rintro e h3 ⟨z4, rfl, e4, k4, hb3, g3⟩
  -- three more
  refine x_seqI (fun e h' => ∃ z5 z6 z7 r, e = [some (.ref b), some (.str z), some (.str "abz0123456789 AZ-_.,"), some (.str y), some (.int p), some (.ref r)] ∧ h'[r]? = some (.lst [.str z1, .str z2, .str z3, .str z4, .str z5, .str z6, .str z7]) ∧ SmS 100 z5 ∧ SmS 100 z6 ∧ SmS 100 z7 ∧ Bag h' b ∧ GrX b h h') ?_ ?_
  · repeat get_elem_tactic_trivial
    refine w_catSm hz hz (by decide) fun s1 => ?_
    repeat get_elem_tactic_trivial
    refine w_catSm hz hy (by decide) fun s2 => ?_
    repeat get_elem_tactic_trivial
    refine w_catSm hy hz (by decide) fun s3 => ?_
    repeat get_elem_tactic_trivial
    refine w_catL (at_app e4) at_new (le_sz rfl) ?_
    repeat get_elem_tactic_trivial
    exact ⟨_, _, _, _, rfl, at_new, s1.le (by decide), s2.le (by decide), s3.le (by decide), bag_app (bag_app hb3), g3.trans (GrX.app.trans GrX.app)⟩
  rintro e h4 ⟨z5, z6, z7, r, rfl, e7, k5, k6, k7, hb4, g4⟩
  -- fourteen
  refine x_seqI (fun e h' => ∃ r, e = [some (.ref b), some (.str z), some (.str "abz0123456789 AZ-_.,"), some (.str y), some (.int p), some (.ref r)] ∧ h'[r]? = some (.lst [.str z1, .str z2, .str z3, .str z4, .str z5, .str z6, .str z7, .non, .bl true, .int 0, .int 7, .int (10 ^ 30), .str "", .str "2", .str "9", .str "a0", .str "a1", .str "a10", .str "abcdefghi", .str "abcdefgh2", .str "abcdefghi2"]) ∧ Bag h' b ∧ GrX b h h') ?_ ?_
  · repeat get_elem_tactic_trivial
    refine w_catL (at_app e7) at_new (le_sz rfl) ?_
    repeat get_elem_tactic_trivial
    exact ⟨at_new, bag_app (bag_app hb4), g4.trans (GrX.app.trans GrX.app)⟩
  rintro e h5 ⟨r5, rfl, e21, hb5, g5⟩
  -- the last five, the draw
  have lt5 := bag_lt hb5
  repeat get_elem_tactic_trivial
  refine w_catL (at_app (at_app (at_app e21))) at_new (le_sz rfl) ?_
  repeat get_elem_tactic_trivial
  refine (take_x (bag_app (bag_app (bag_app (bag_app hb5)))) (by omega) (by omega)).imp ?_
  rintro w h6 ⟨d, rfl, ⟨hd0, hd1⟩, hb6, g6⟩
  have eL := g6 _ _ (by simp; omega) at_new
  have q1 : h6[h5.length]? = some (.lst [.str z]) := g6 _ _ (by omega) (at_app (at_app (at_app at_new)))
  have q2 : h6[(h5 ++ [AO.lst [W.str z]]).length]? = some (.lst []) := g6 _ _ (by simp; omega) (at_app (at_app at_new))
  have G := g5.trans (GrX.app.trans (GrX.app.trans (GrX.app.trans (GrX.app.trans g6))))
  have sm : ∀ c : Str, c.length ≤ 100 → (∀ x ∈ c.cps.toList, x < 16 ^ 8) → Ok b h6 (.str c) := fun c a a2 => .str ⟨a, a2⟩
  have z9 := hz.le (show 9 ≤ 100 by decide)
  have rz : (reprText z).length ≤ 10000 := by
    have := PySem.StrLaws.reprText_len z hz.2
    have := hz.1
    omega
  have all : ∀ w ∈ [W.str z1, .str z2, .str z3, .str z4, .str z5, .str z6, .str z7, .non, .bl true, .int 0, .int 7, .int (10 ^ 30), .str "", .str "2", .str "9", .str "a0", .str "a1", .str "a10", .str "abcdefghi", .str "abcdefgh2", .str "abcdefghi2", .str "a2b", .tup [.str z], .ref h5.length, .ref (h5 ++ [AO.lst [W.str z]]).length, .tup [.str "a", .str "2"]], Ok b h6 w := by
    simp only [List.forall_mem_cons]
    refine ⟨.str k1, .str k2, .str k3, .str k4, .str k5, .str k6, .str k7, ?_, ?_, ?_, ?_, ?_, sm _ (by decide +kernel) (by decide +kernel), sm _ (by decide +kernel) (by decide +kernel), sm _ (by decide +kernel) (by decide +kernel), sm _ (by decide +kernel) (by decide +kernel), sm _ (by decide +kernel) (by decide +kernel), sm _ (by decide +kernel) (by decide +kernel), sm _ (by decide +kernel) (by decide +kernel), sm _ (by decide +kernel) (by decide +kernel), sm _ (by decide +kernel) (by decide +kernel), sm _ (by decide +kernel) (by decide +kernel), ?_, ?_, ?_, ?_, by simp⟩
    · exact .flat (fun _ => rfl) rfl (fun _ => rfl) (small_repr (by simp [PyData.showable]) (by simp [PyData.hasDict]) (by simp [PyData.depth]) (by simp [bndD]))
    · exact .flat (fun _ => rfl) rfl (fun _ => rfl) (small_repr (by simp [PyData.showable]) (by simp [PyData.hasDict]) (by simp [PyData.depth]) (by simp [bndD]))
    · exact .flat (fun _ => rfl) rfl (fun _ => rfl) (small_repr (by decide +kernel) (by simp [PyData.hasDict]) (by simp [PyData.depth]) (by simp [bndD]))
    · exact .flat (fun _ => rfl) rfl (fun _ => rfl) (small_repr (by decide +kernel) (by simp [PyData.hasDict]) (by simp [PyData.depth]) (by simp [bndD]))
    · exact .flat (fun _ => rfl) rfl (fun _ => rfl) (small_repr (by decide +kernel) (by simp [PyData.hasDict]) (by simp [PyData.depth]) (by simp [bndD]))
    · exact .flat (fun _ => rfl) rfl (fun _ => rfl) (small_repr (by simp [PyData.showable, PyData.showableAll]) (by simp [PyData.hasDict, PyData.hasDictAll]) (by simp [PyData.depth, PyData.depthAll]) (by simp [bndD, bndDs]; omega))
    · exact .lst (ds := [.str z]) (by omega) q1 (fun _ => rfl) (small_repr (by simp [PyData.showable, PyData.showableAll]) (by simp [PyData.hasDict, PyData.hasDictAll]) (by simp [PyData.depth, PyData.depthAll]) (by simp [bndD, bndDs]; omega))
    · exact .lst (ds := []) (by simp; omega) q2 (fun _ => rfl) (small_repr (by simp [PyData.showable, PyData.showableAll]) (by simp [PyData.hasDict, PyData.hasDictAll]) (by simp [PyData.depth, PyData.depthAll]) (by simp [bndD, bndDs]))
    · exact .flat (fun _ => rfl) rfl (fun _ => rfl) (small_repr (by simp [PyData.showable, PyData.showableAll]) (by simp [PyData.hasDict, PyData.hasDictAll]) (by simp [PyData.depth, PyData.depthAll]) (by decide +kernel))
  refine w_ixA (seqLT_of eL) (Z.atI_int hd0 (List.getElem?_eq_getElem (by simp; omega))) ⟨all _ (List.getElem_mem _), hb6, G⟩
end K02
namespace K02
open PySem L2 Z
local macro_rules | `(tactic| walk_at "b") => `(tactic| first | rfl | (with_reducible assumption) | (simp only [Bool.not_eq_true', Bool.not_eq_false', decide_eq_true_eq, decide_eq_false_iff_not, Bool.not_eq_true, Bool.not_eq_false, Bool.and_eq_true, Bool.or_eq_true, Bool.and_eq_false_iff, Bool.or_eq_false_iff, Bool.not_true, Bool.not_false, decide_true, decide_false, List.all_cons, List.all_nil, List.any_cons, List.any_nil, id_eq, Bool.and_true, Bool.true_and, Bool.false_or, Bool.or_false, Bool.and_self, and_true, true_and, beq_self_eq_true] <;> omega))
local macro_rules | `(tactic| walk_at "k") => `(tactic| rfl)
local macro_rules | `(tactic| walk_at "p") => `(tactic| rfl)
local macro_rules | `(tactic| walk_at "m") => `(tactic| rfl)
local macro_rules | `(tactic| walk_at "i") => `(tactic| rfl)
local macro_rules | `(tactic| walk_at "y") => `(tactic| first | exact ct0 | exact cd0 | exact ct1 | exact cd1 | exact ct2 | exact cd2 | exact ct3 | exact cd3 | exact ct4 | exact cd4 | exact ct5 | exact cd5 | exact ct6 | exact cd6)
local macro_rules | `(tactic| walk_at "t") => `(tactic| ((repeat (with_reducible apply cat_cons)); exact List.nil_append _))
local macro_rules | `(tactic| walk_at "x") => `(tactic| with_reducible first | exact ix0 | exact ix1 | exact ix2 | exact ix3 | exact ix4 | exact ix5 | exact ix6 | exact ix7 | exact ix8 | exact ix9 | exact ix10 | exact ix11 | exact iy0 | exact iy1 | exact iy2 | exact iy3 | exact iy4 | exact iy5 | exact iy6 | exact iy7 | exact iy8 | exact iy9 | exact iy10 | exact iy11 | exact se0 | exact se1 | exact se2 | exact se3 | exact se4 | exact se5 | exact se6 | exact se7 | exact se8 | exact se9 | exact se10 | exact se11 | exact ap0 | exact ap1 | exact ap2 | exact ap3 | exact ap4 | exact ap5 | exact ap6 | exact ap7 | exact ap8 | exact ap9 | exact ap10 | exact ap11)
local macro_rules | `(tactic| walk_at "r") => `(tactic| first | (with_reducible assumption) | exact Rp.at (by with_reducible assumption) 0 (by rfl) | exact Rp.at (by with_reducible assumption) 1 (by rfl) | exact Rp.at (by with_reducible assumption) 2 (by rfl) | exact Rp.at (by with_reducible assumption) 3 (by rfl) | exact Rp.at (by with_reducible assumption) 4 (by rfl) | exact Rp.at (by with_reducible assumption) 5 (by rfl) | exact Rp.at (by with_reducible assumption) 6 (by rfl) | exact Rp.at (by with_reducible assumption) 7 (by rfl) | exact Rp.at (by with_reducible assumption) 8 (by rfl) | exact Rp.at (by with_reducible assumption) 9 (by rfl) | exact Rp.at (by with_reducible assumption) 10 (by rfl) | exact Rp.at (by with_reducible assumption) 11 (by rfl) | exact Rp.at (by with_reducible assumption) 12 (by rfl))
local macro_rules | `(tactic| walk_at "c") => `(tactic| first
  | ((with_reducible apply tt_of); omega)
  | ((with_reducible apply ff_of); omega)
  | ((with_reducible apply tt_of'); omega)
  | ((with_reducible apply ff_of'); omega)
  | ((with_reducible apply tt_b); walk_at "b")
  | ((with_reducible apply ff_b); walk_at "b")
  | ((with_reducible apply tt_b'); walk_at "b")
  | ((with_reducible apply ff_b'); walk_at "b"))
local macro_rules | `(tactic| walk_at "s") => `(tactic| first
  | with_reducible refine y_seq ?_
  | with_reducible refine y_asg ?_
  | with_reducible refine y_if ?_
  | with_reducible refine y_exp ?_
  | with_reducible refine y_ret ?_
  | with_reducible refine y_nm ?_
  | with_reducible refine y_nx ?_
  | with_reducible refine y_rt ?_
  | with_reducible refine y_bk ?_
  | with_reducible refine y_ct ?_
  | with_reducible refine y_tp rfl ?_
  | with_reducible refine y_gcons ?_
  | with_reducible refine y_gnil ?_
  | with_reducible refine y_nxo ?_
  | with_reducible refine y_subM ?_
  | with_reducible refine u_par ?_
  | with_reducible refine u_b2 ?_
  | with_reducible refine u_u1 ?_
  | with_reducible refine u_c ?_
  | with_reducible refine u_nil ?_
  | with_reducible refine u_cons ?_
  | with_reducible refine u_G ?_
  | with_reducible refine u_F ?_
  | with_reducible refine u_Kw ?_
  | with_reducible refine u_tup ?_
  | with_reducible refine u_test ?_
  | with_reducible refine u_notT ?_
  | with_reducible refine u_notV ?_
  | with_reducible refine u_if ?_
  | with_reducible refine u_chainLL ?_
  | with_reducible refine u_chain ?_
  | with_reducible refine u_add ?_
  | with_reducible refine u_sub ?_
  | with_reducible refine u_lt ?_
  | with_reducible refine u_le ?_
  | with_reducible refine u_gt ?_
  | with_reducible refine u_ge ?_
  | with_reducible refine u_neg ?_
  | with_reducible refine u_abs ?_
  | with_reducible refine u_max2 ?_
  | with_reducible refine u_min2 ?_
  | with_reducible refine u_eqI ?_
  | with_reducible refine u_neI ?_
  | with_reducible refine u_eqB ?_
  | with_reducible refine u_neB ?_
  | with_reducible refine u_eqS ?_
  | with_reducible refine u_neS ?_
  | with_reducible refine u_sl ?_
  | with_reducible refine u_no ?_
  | with_reducible refine u_part ?_
  | with_reducible refine u_it ?_
  | with_reducible refine u_srcS ?_
  | with_reducible refine u_srcT ?_
  | with_reducible refine u_rg1 ?_
  | with_reducible refine u_join ?_
  | with_reducible refine u_rev ?_
  | with_reducible refine u_keys ?_
  | with_reducible refine u_zip ?_
  | with_reducible refine u_fld ?_
  | with_reducible refine y_fldR ?_
  | with_reducible refine u_makeR ?_
  | with_reducible refine u_lstR ?_
  | with_reducible refine u_dspR ?_
  | with_reducible refine u_prsN ?_
  | with_reducible refine u_prsC ?_
  | with_reducible refine u_lcR ?_
  | with_reducible refine u_mbL ?_
  | with_reducible refine u_B ?_
  | with_reducible refine u_int_b ?_
  | with_reducible refine u_int_i ?_
  | with_reducible refine u_slT ?_
  | ((with_reducible apply u_var); rfl)
  | ((with_reducible apply u_isi); (first | rfl | exact tyW_ins (by walk_at "r") | exact tyW_lst (by walk_at "r") | exact tyW_dk (by walk_at "r")); rfl; walk_at "i")
  | ((with_reducible apply u_ixA); exact seqLT_of (by walk_at "r"); walk_at "x")
  | ((with_reducible apply u_ixAT); walk_at "x")
  | ((with_reducible apply u_srcL); walk_at "r")
  | ((with_reducible apply u_slS); (with_reducible assumption))
  | ((with_reducible apply u_lenS); (with_reducible assumption))
  | ((with_reducible apply u_len); (first | rfl | exact seqLT_of (by walk_at "r")))
  | ((with_reducible apply u_mod); (first | (with_reducible assumption) | omega))
  | ((with_reducible apply u_fdiv'); omega; omega)
  | ((with_reducible apply u_mulP); omega; omega)
  | ((with_reducible apply u_mulQ); omega; omega)
  | ((with_reducible apply u_powP); omega; omega; omega; omega)
  | ((with_reducible apply u_dget); walk_at "r"; rfl; walk_at "k")
  | ((with_reducible apply u_kd); walk_at "k")
  | ((with_reducible apply u_allL); walk_at "r"; rfl)
  | ((with_reducible apply u_anyL); walk_at "r"; rfl)
  | ((with_reducible apply u_catLR); walk_at "r"; walk_at "r"; rfl; walk_at "t"; (with_reducible assumption); intro _ _ _)
  | ((with_reducible apply u_slLR); walk_at "r"; walk_at "y"; (with_reducible assumption); intro _ _ _)
  | ((with_reducible apply u_listLR); (first | rfl | exact seqLT_of (by walk_at "r")); (with_reducible assumption); intro _ _ _)
  | ((with_reducible apply setR_ok (i := 0)); (with_reducible assumption); rfl; walk_at "x"; walk_at "x"; exact se0; intro _ _)
  | ((with_reducible apply setR_ok (i := 1)); (with_reducible assumption); rfl; walk_at "x"; walk_at "x"; exact se1; intro _ _)
  | ((with_reducible apply setR_ok (i := 2)); (with_reducible assumption); rfl; walk_at "x"; walk_at "x"; exact se2; intro _ _)
  | ((with_reducible apply setR_ok (i := 3)); (with_reducible assumption); rfl; walk_at "x"; walk_at "x"; exact se3; intro _ _)
  | ((with_reducible apply setR_ok (i := 4)); (with_reducible assumption); rfl; walk_at "x"; walk_at "x"; exact se4; intro _ _)
  | ((with_reducible apply setR_ok (i := 5)); (with_reducible assumption); rfl; walk_at "x"; walk_at "x"; exact se5; intro _ _)
  | ((with_reducible apply u_appendR (i := 0)); (with_reducible assumption); rfl; rfl; walk_at "x"; exact se0; intro _ _)
  | ((with_reducible apply u_appendR (i := 1)); (with_reducible assumption); rfl; rfl; walk_at "x"; exact se1; intro _ _)
  | ((with_reducible apply u_appendR (i := 2)); (with_reducible assumption); rfl; rfl; walk_at "x"; exact se2; intro _ _)
  | ((with_reducible apply u_appendR (i := 3)); (with_reducible assumption); rfl; rfl; walk_at "x"; exact se3; intro _ _)
  | ((with_reducible apply u_appendR (i := 4)); (with_reducible assumption); rfl; rfl; walk_at "x"; exact se4; intro _ _)
  | ((with_reducible apply u_appendR (i := 5)); (with_reducible assumption); rfl; rfl; walk_at "x"; exact se5; intro _ _)
  | with_reducible refine ⟨_, _, _, rfl, rfl, rfl, rfl, ?_⟩
  | with_reducible refine ⟨_, rfl, ?_⟩
  | ((with_reducible apply lst_go); rfl; (with_reducible assumption); intro _ _ _)
  | ((with_reducible apply make_go'); rfl; rfl; (with_reducible assumption); intro _ _ _)
  | ((with_reducible apply kwd_go); rfl; rfl)
  | ((with_reducible apply len_go); rfl)
  | ((with_reducible apply tup_go); rfl)
  | ((with_reducible apply fld_go); walk_at "r"; (first | exact List.mem_singleton_self _ | simp); walk_at "k")
  | ((with_reducible apply mb_go); walk_at "r")
  | ((with_reducible apply zip_go); walk_at "r"; walk_at "r")
  | ((with_reducible apply dsp_go); (with_reducible assumption); rfl; walk_at "m"; intro _ _)
  | ((with_reducible apply key_go); rfl)
  | ((with_reducible apply lcc_go (i := 0)); (with_reducible assumption); rfl; rfl; walk_at "x"; exact se0; intro _ _)
  | ((with_reducible apply lcc_go (i := 1)); (with_reducible assumption); rfl; rfl; walk_at "x"; exact se1; intro _ _)
  | ((with_reducible apply lcc_go (i := 2)); (with_reducible assumption); rfl; rfl; walk_at "x"; exact se2; intro _ _)
  | ((with_reducible apply lcc_go (i := 3)); (with_reducible assumption); rfl; rfl; walk_at "x"; exact se3; intro _ _)
  | ((with_reducible apply lcc_go (i := 4)); (with_reducible assumption); rfl; rfl; walk_at "x"; exact se4; intro _ _)
  | ((with_reducible apply lcc_go (i := 5)); (with_reducible assumption); rfl; rfl; walk_at "x"; exact se5; intro _ _)
  | ((with_reducible apply xfld_go (i := 0)); (with_reducible assumption); rfl; (first | exact List.mem_singleton_self _ | simp); rfl; walk_at "p"; exact se0; intro _ _)
  | ((with_reducible apply xfld_go (i := 1)); (with_reducible assumption); rfl; (first | exact List.mem_singleton_self _ | simp); rfl; walk_at "p"; exact se1; intro _ _)
  | ((with_reducible apply xfld_go (i := 2)); (with_reducible assumption); rfl; (first | exact List.mem_singleton_self _ | simp); rfl; walk_at "p"; exact se2; intro _ _)
  | ((with_reducible apply xfld_go (i := 3)); (with_reducible assumption); rfl; (first | exact List.mem_singleton_self _ | simp); rfl; walk_at "p"; exact se3; intro _ _)
  | ((with_reducible apply xfld_go (i := 4)); (with_reducible assumption); rfl; (first | exact List.mem_singleton_self _ | simp); rfl; walk_at "p"; exact se4; intro _ _)
  | ((with_reducible apply xfld_go (i := 5)); (with_reducible assumption); rfl; (first | exact List.mem_singleton_self _ | simp); rfl; walk_at "p"; exact se5; intro _ _)
  | ((with_reducible apply new_go); (with_reducible assumption); intro _ _ _))
local macro_rules | `(tactic| walk_at "l") => `(tactic| first
  | refine u_lcC trivial rfl ?_ | refine u_lcN trivial ?_ | refine u_lcC (seqL_of (by walk_at "r")) rfl ?_ | refine u_lcN (seqL_of (by walk_at "r")) ?_
  | refine u_lcC ⟨seqL_of (by walk_at "r"), seqL_of (by walk_at "r")⟩ rfl ?_ | refine u_lcN ⟨seqL_of (by walk_at "r"), seqL_of (by walk_at "r")⟩ ?_
  | refine y_lpC trivial ?_ | refine y_lpN trivial ?_ | refine y_lpC (seqL_of (by walk_at "r")) ?_ | refine y_lpN (seqL_of (by walk_at "r")) ?_)
local macro_rules | `(tactic| walk_at "a") => `(tactic| with_reducible first | refine u_andT ?_ | refine u_orT ?_ | refine u_andV ?_ | refine u_orV ?_)
local macro_rules | `(tactic| walk_at "P") => `(tactic| first
  | (with_reducible refine u_andTP ?_) | (with_reducible refine u_orTP ?_) | (with_reducible refine u_andVP ?_) | (with_reducible refine u_orVP ?_)
  | ((with_reducible apply i_andp_go); (intro _; walk_at "gp"; exact ⟨rfl, rfl⟩)) | ((with_reducible apply i_orp_go); (intro _; walk_at "gp"; exact ⟨rfl, rfl⟩)) | ((with_reducible apply i_andtp_go); (intro _; walk_at "gp"; exact ⟨rfl, rfl⟩)) | ((with_reducible apply i_ortp_go); (intro _; walk_at "gp"; exact ⟨rfl, rfl⟩)))
local macro_rules | `(tactic| walk_at "gp") => `(tactic| repeat first | walk_at "s" | walk_at "P" | walk_at "c" | walk_at "d" | walk_at "l")
local macro_rules | `(tactic| walk_at "g") => `(tactic| repeat first | walk_at "s" | walk_at "a" | walk_at "c" | walk_at "d" | walk_at "l")
local macro_rules | `(tactic| walk_at "d") => `(tactic| first | ((with_reducible apply take_R (i := 0)); (with_reducible assumption); rfl; (with_reducible assumption); (first | omega | (rfl)); (first | omega | rfl); (exact fun _ _ => se0); intro _ _ _ _ _ _ _ _) | ((with_reducible apply take_R (i := 1)); (with_reducible assumption); rfl; (with_reducible assumption); (first | omega | (rfl)); (first | omega | rfl); (exact fun _ _ => se1); intro _ _ _ _ _ _ _ _) | ((with_reducible apply take_R (i := 2)); (with_reducible assumption); rfl; (with_reducible assumption); (first | omega | (rfl)); (first | omega | rfl); (exact fun _ _ => se2); intro _ _ _ _ _ _ _ _) | ((with_reducible apply take_R (i := 3)); (with_reducible assumption); rfl; (with_reducible assumption); (first | omega | (rfl)); (first | omega | rfl); (exact fun _ _ => se3); intro _ _ _ _ _ _ _ _) | ((with_reducible apply take_R (i := 4)); (with_reducible assumption); rfl; (with_reducible assumption); (first | omega | (rfl)); (first | omega | rfl); (exact fun _ _ => se4); intro _ _ _ _ _ _ _ _) | ((with_reducible apply take_R (i := 5)); (with_reducible assumption); rfl; (with_reducible assumption); (first | omega | (rfl)); (first | omega | rfl); (exact fun _ _ => se5); intro _ _ _ _ _ _ _ _) | ((with_reducible apply take_R (i := 6)); (with_reducible assumption); rfl; (with_reducible assumption); (first | omega | (rfl)); (first | omega | rfl); (exact fun _ _ => se6); intro _ _ _ _ _ _ _ _) | ((with_reducible apply take_R (i := 7)); (with_reducible assumption); rfl; (with_reducible assumption); (first | omega | (rfl)); (first | omega | rfl); (exact fun _ _ => se7); intro _ _ _ _ _ _ _ _) | ((with_reducible apply take_R (i := 8)); (with_reducible assumption); rfl; (with_reducible assumption); (first | omega | (rfl)); (first | omega | rfl); (exact fun _ _ => se8); intro _ _ _ _ _ _ _ _) | ((with_reducible apply take_R (i := 9)); (with_reducible assumption); rfl; (with_reducible assumption); (first | omega | (rfl)); (first | omega | rfl); (exact fun _ _ => se9); intro _ _ _ _ _ _ _ _))
local macro_rules | `(tactic| walk_at "ind1") => `(tactic| first
  | with_reducible exact ie_is | with_reducible exact ie_c | with_reducible exact ie_nil | with_reducible exact ie_mB | with_reducible exact is_nx | with_reducible exact ig_nil | with_reducible exact is_rt
  | ((with_reducible apply ie_var); decide) | with_reducible apply ie_cons | with_reducible apply ie_tup | with_reducible apply ie_lst | with_reducible apply ie_G | with_reducible apply ie_b2
  | with_reducible apply ie_test | with_reducible apply ie_notT | with_reducible apply ie_notV | with_reducible apply ie_andT | with_reducible apply ie_orT | with_reducible apply ie_andV | with_reducible apply ie_orV
  | with_reducible apply ie_if | with_reducible apply ie_itL | ((with_reducible apply ig_nm); decide) | with_reducible apply ig_cons | with_reducible apply ig_tp | ((with_reducible refine ie_lc ?_ ?_ ?_ ?_ (by decide)))
  | with_reducible apply is_seq | ((with_reducible refine is_asg ?_ (by decide))) | with_reducible apply is_ret | with_reducible apply is_exp | with_reducible apply is_if | with_reducible apply ie_F)
local macro_rules | `(tactic| walk_at "ind") => `(tactic| repeat walk_at "ind1")
local macro_rules | `(tactic| walk_at "xi") => `(tactic| with_reducible first | exact xi_NoName_Came (by assumption) | exact xi_NoName_Claimed (by assumption) | exact xi_NoName_Due (by assumption) | exact xi_NoName_Early (by assumption) | exact xi_NoName_IsOn (by assumption) | exact xi_NoName_LookupError (by assumption) | exact xi_NoName_NoBounds (by assumption) | exact xi_NoName_NoClaim (by assumption) | exact xi_NoName_NoHand (by assumption) | exact xi_NoName_NoHands (by assumption) | exact xi_NoName_NoLess (by assumption) | exact xi_NoName_NoLetter (by assumption) | exact xi_NoName_NoMark (by assumption) | exact xi_NoName_NoName (by assumption) | exact xi_NoName_NoNext (by assumption) | exact xi_NoName_NoPaper (by assumption) | exact xi_NoName_NoRule (by assumption) | exact xi_NoName_NoSaying (by assumption) | exact xi_NoName_NoScript (by assumption) | exact xi_NoName_NoTries (by assumption) | exact xi_NoName_NoWire (by assumption) | exact xi_NoName_NotEmpty (by assumption) | exact xi_NoName_NotOn (by assumption) | exact xi_NoName_Owed (by assumption) | exact xi_NoName_SameWire (by assumption) | exact xi_NoName_TooMany (by assumption) | exact xi_NoName_ValueError (by assumption) | exact xi_NoName_WireError (by assumption) | exact xi_NoNext_Came (by assumption) | exact xi_NoNext_Claimed (by assumption) | exact xi_NoNext_Due (by assumption) | exact xi_NoNext_Early (by assumption) | exact xi_NoNext_IsOn (by assumption) | exact xi_NoNext_LookupError (by assumption) | exact xi_NoNext_NoBounds (by assumption) | exact xi_NoNext_NoClaim (by assumption) | exact xi_NoNext_NoHand (by assumption) | exact xi_NoNext_NoHands (by assumption) | exact xi_NoNext_NoLess (by assumption) | exact xi_NoNext_NoLetter (by assumption) | exact xi_NoNext_NoMark (by assumption) | exact xi_NoNext_NoName (by assumption) | exact xi_NoNext_NoNext (by assumption) | exact xi_NoNext_NoPaper (by assumption) | exact xi_NoNext_NoRule (by assumption) | exact xi_NoNext_NoSaying (by assumption) | exact xi_NoNext_NoScript (by assumption) | exact xi_NoNext_NoTries (by assumption) | exact xi_NoNext_NoWire (by assumption) | exact xi_NoNext_NotEmpty (by assumption) | exact xi_NoNext_NotOn (by assumption) | exact xi_NoNext_Owed (by assumption) | exact xi_NoNext_SameWire (by assumption) | exact xi_NoNext_TooMany (by assumption) | exact xi_NoNext_ValueError (by assumption) | exact xi_NoNext_WireError (by assumption))
theorem tt_of {p : Prop} [Decidable p] {A B : Prop} (h : p) (a : A) : (decide p = true → A) ∧ (decide p = false → B) := ⟨fun _ => a, fun q => absurd h (of_decide_eq_false q)⟩
theorem ff_of {p : Prop} [Decidable p] {A B : Prop} (h : ¬ p) (b : B) : (decide p = true → A) ∧ (decide p = false → B) := ⟨fun q => absurd (of_decide_eq_true q) h, fun _ => b⟩
theorem tt_of' {p : Prop} [Decidable p] {A B : Prop} (h : p) (a : A) : (decide p = false → B) ∧ (decide p = true → A) := ⟨fun q => absurd h (of_decide_eq_false q), fun _ => a⟩
theorem ff_of' {p : Prop} [Decidable p] {A B : Prop} (h : ¬ p) (b : B) : (decide p = false → B) ∧ (decide p = true → A) := ⟨fun _ => b, fun q => absurd (of_decide_eq_true q) h⟩
theorem tt_b {b : Bool} {A B : Prop} (h : b = true) (a : A) : (b = true → A) ∧ (b = false → B) := ⟨fun _ => a, fun q => by (rw [h] at q; cases q)⟩
theorem ff_b {b : Bool} {A B : Prop} (h : b = false) (a : B) : (b = true → A) ∧ (b = false → B) := ⟨fun q => by (rw [h] at q; cases q), fun _ => a⟩
theorem tt_b' {b : Bool} {A B : Prop} (h : b = true) (a : A) : (b = false → B) ∧ (b = true → A) := ⟨fun q => by (rw [h] at q; cases q), fun _ => a⟩
theorem ff_b' {b : Bool} {A B : Prop} (h : b = false) (a : B) : (b = false → B) ∧ (b = true → A) := ⟨fun _ => a, fun q => by (rw [h] at q; cases q)⟩
/-! ### draws -/
structure BagV (g x : Int) : Prop where
  g0 : 0 ≤ g
  x0 : 0 ≤ x
  x1 : x < 2147483647
abbrev bagO (g x : Int) : AO := .lst [.int g, .int x]
section
variable {A : Ad} {bs : List Blk} {b : Nat} {g x n : Int} {h : Hv} {Q : W → Hv → Prop} {X : XH}
theorem take_R (H : Rp bs h) (i : Nat) (e : bs[i]? = some [(b, bagO g x)]) (v : BagV g x) (hn : 0 < n) (hn2 : n < 1000000) {bs' : Int → Int → List Blk}
    (e4 : ∀ g' x', bs.set i [(b, bagO g' x')] = bs' g' x') (q : ∀ d g' x' h', 0 ≤ d → d < n → BagV g' x' → Rp (bs' g' x') h' → Q (.int d) h') : eW (F_law_take A [.ref b, .int n] h) Q X := by
  have hb := H.at i e
  obtain ⟨hg, hx, hx2⟩ := v
  unfold F_law_take
  refine u_runB ?_
  show sW (m_law_take A [some (.ref b), some (.int n), none] h) _ _ _ _ _
  unfold m_law_take
  repeat walk_at "s"
  constructor
  · intro c
    have c : 0 < g := of_decide_eq_true c
    repeat walk_at "s"
    refine setR_ok H i e iy0 rfl rfl fun h' H' => ?_
    repeat walk_at "s"
    exact q _ _ _ _ (Int.emod_nonneg _ (by omega)) (Int.emod_lt_of_pos _ hn) ⟨Int.ediv_nonneg hg (by omega), hx, hx2⟩ (e4 _ _ ▸ H')
  · intro c
    repeat walk_at "s"
    have hx3 : 0 ≤ (x * 69069 + 1327217) % 2147483647 := Int.emod_nonneg _ (by omega)
    have hx4 : (x * 69069 + 1327217) % 2147483647 < 2147483647 := Int.emod_lt_of_pos _ (by omega)
    refine setR_ok H i e iy1 rfl rfl fun h' H' => ?_
    have hb1 : h'[b]? = some (bagO g ((x * 69069 + 1327217) % 2147483647)) := by
      refine H'.at i ?_
      rw [List.getElem?_set_self (List.getElem?_eq_some_iff.mp e).1]
      rfl
    repeat walk_at "s"
    exact q _ _ _ _ (Int.emod_nonneg _ (by omega)) (Int.emod_lt_of_pos _ hn) ⟨hg, hx3, hx4⟩ (e4 _ _ ▸ H')
theorem bag_R {ns : List Int} {i : Nat} (H : Rp bs h) (hi : (i : Int) < 64) (q : ∀ b g x h', BagV g x → Rp ([(b, bagO g x)] :: bs) h' → Q (.ref b) h') : eW (F_law_bag A [.cl (ns.map W.int), .int i] h) Q X := by
  unfold F_law_bag
  refine u_runB ?_
  show sW (m_law_bag A [some (.cl (ns.map W.int)), some (.int i), none, none, none, none] h) _ _ _ _ _
  unfold m_law_bag
  iterate 4 walk_at "s"
  refine y_seqI (fun e h' => h' = h ∧ ∃ c : Int, e = [some (.cl (ns.map W.int)), some (.int i), some (.int c), none, none, none]) ?_ ?_
  · iterate 8 walk_at "s"
    refine u_len rfl ?_
    repeat walk_at "s"
    refine ⟨fun q => ?_, fun q => ?_⟩
    · repeat walk_at "s"
      have q := of_decide_eq_true q
      rw [List.length_map] at q
      refine u_ixA (x := .cl _) rfl (w := .int (ns[i]'(by omega))) ?_ ?_
      · exact Z.atI_n (by simp)
      · repeat walk_at "s"
        exact ⟨rfl, _, rfl⟩
    · repeat walk_at "s"
      exact ⟨rfl, _, rfl⟩
  rintro e h' ⟨rfl, c, rfl⟩
  iterate 4 walk_at "s"
  refine y_seqI (fun e h1 => h1 = h' ∧ ∃ g : Int, 0 ≤ g ∧ e = [some (.cl (ns.map W.int)), some (.int i), some (.int c), some (.int g), none, none]) ?_ ?_
  · repeat walk_at "s"
    refine ⟨fun q => ?_, fun q => ?_⟩
    · repeat walk_at "s"
      exact ⟨rfl, _, by split <;> omega, rfl⟩
    · repeat walk_at "s"
      exact ⟨rfl, 0, by omega, rfl⟩
  rintro e h1 ⟨rfl, g, hg, rfl⟩
  repeat walk_at "s"
  rename_i r h2 H2
  obtain ⟨p, ep, hp, hp2⟩ : ∃ p : Int, atI [W.int 2147483647, W.int 2147483629, W.int 2147483587, W.int 2147483579, W.int 2147483563, W.int 2147483549, W.int 2147483543, W.int 2147483497] ((i : Int) % 8) = some (.int p) ∧ 0 < p ∧ p ≤ 2147483647 := by
    have h8 : (i : Int) % 8 = 0 ∨ (i : Int) % 8 = 1 ∨ (i : Int) % 8 = 2 ∨ (i : Int) % 8 = 3 ∨ (i : Int) % 8 = 4 ∨ (i : Int) % 8 = 5 ∨ (i : Int) % 8 = 6 ∨ (i : Int) % 8 = 7 := by omega
    rcases h8 with q | q | q | q | q | q | q | q <;> rw [q] <;> exact ⟨_, rfl, by decide, by decide⟩
  refine u_ixA (seqLT_of (H2.at 0 rfl)) ep ?_
  repeat walk_at "s"
  rename_i r' h3 H3
  exact q _ _ _ _ ⟨hg, Int.emod_nonneg _ (by omega), Int.lt_of_lt_of_le (Int.emod_lt_of_pos _ hp) hp2⟩ (H3.er 1)
end
end K02
namespace K02
open PySem L2 Z
local macro_rules | `(tactic| walk_at "b") => `(tactic| first | rfl | (with_reducible assumption) | (simp only [Bool.not_eq_true', Bool.not_eq_false', decide_eq_true_eq, decide_eq_false_iff_not, Bool.not_eq_true, Bool.not_eq_false, Bool.and_eq_true, Bool.or_eq_true, Bool.and_eq_false_iff, Bool.or_eq_false_iff, Bool.not_true, Bool.not_false, decide_true, decide_false, List.all_cons, List.all_nil, List.any_cons, List.any_nil, id_eq, Bool.and_true, Bool.true_and, Bool.false_or, Bool.or_false, Bool.and_self, and_true, true_and, beq_self_eq_true] <;> omega))
local macro_rules | `(tactic| walk_at "k") => `(tactic| rfl)
local macro_rules | `(tactic| walk_at "p") => `(tactic| rfl)
local macro_rules | `(tactic| walk_at "m") => `(tactic| rfl)
local macro_rules | `(tactic| walk_at "i") => `(tactic| rfl)
local macro_rules | `(tactic| walk_at "y") => `(tactic| first | exact ct0 | exact cd0 | exact ct1 | exact cd1 | exact ct2 | exact cd2 | exact ct3 | exact cd3 | exact ct4 | exact cd4 | exact ct5 | exact cd5 | exact ct6 | exact cd6)
local macro_rules | `(tactic| walk_at "t") => `(tactic| ((repeat (with_reducible apply cat_cons)); exact List.nil_append _))
local macro_rules | `(tactic| walk_at "x") => `(tactic| with_reducible first | exact ix0 | exact ix1 | exact ix2 | exact ix3 | exact ix4 | exact ix5 | exact ix6 | exact ix7 | exact ix8 | exact ix9 | exact ix10 | exact ix11 | exact iy0 | exact iy1 | exact iy2 | exact iy3 | exact iy4 | exact iy5 | exact iy6 | exact iy7 | exact iy8 | exact iy9 | exact iy10 | exact iy11 | exact se0 | exact se1 | exact se2 | exact se3 | exact se4 | exact se5 | exact se6 | exact se7 | exact se8 | exact se9 | exact se10 | exact se11 | exact ap0 | exact ap1 | exact ap2 | exact ap3 | exact ap4 | exact ap5 | exact ap6 | exact ap7 | exact ap8 | exact ap9 | exact ap10 | exact ap11)
local macro_rules | `(tactic| walk_at "r") => `(tactic| first | (with_reducible assumption) | exact Rp.at (by with_reducible assumption) 0 (by rfl) | exact Rp.at (by with_reducible assumption) 1 (by rfl) | exact Rp.at (by with_reducible assumption) 2 (by rfl) | exact Rp.at (by with_reducible assumption) 3 (by rfl) | exact Rp.at (by with_reducible assumption) 4 (by rfl) | exact Rp.at (by with_reducible assumption) 5 (by rfl) | exact Rp.at (by with_reducible assumption) 6 (by rfl) | exact Rp.at (by with_reducible assumption) 7 (by rfl) | exact Rp.at (by with_reducible assumption) 8 (by rfl) | exact Rp.at (by with_reducible assumption) 9 (by rfl) | exact Rp.at (by with_reducible assumption) 10 (by rfl) | exact Rp.at (by with_reducible assumption) 11 (by rfl) | exact Rp.at (by with_reducible assumption) 12 (by rfl))
local macro_rules | `(tactic| walk_at "c") => `(tactic| first
  | ((with_reducible apply tt_of); omega)
  | ((with_reducible apply ff_of); omega)
  | ((with_reducible apply tt_of'); omega)
  | ((with_reducible apply ff_of'); omega)
  | ((with_reducible apply tt_b); walk_at "b")
  | ((with_reducible apply ff_b); walk_at "b")
  | ((with_reducible apply tt_b'); walk_at "b")
  | ((with_reducible apply ff_b'); walk_at "b"))
local macro_rules | `(tactic| walk_at "s") => `(tactic| first
  | with_reducible refine y_seq ?_
  | with_reducible refine y_asg ?_
  | with_reducible refine y_if ?_
  | with_reducible refine y_exp ?_
  | with_reducible refine y_ret ?_
  | with_reducible refine y_nm ?_
  | with_reducible refine y_nx ?_
  | with_reducible refine y_rt ?_
  | with_reducible refine y_bk ?_
  | with_reducible refine y_ct ?_
  | with_reducible refine y_tp rfl ?_
  | with_reducible refine y_gcons ?_
  | with_reducible refine y_gnil ?_
  | with_reducible refine y_nxo ?_
  | with_reducible refine y_subM ?_
  | with_reducible refine u_par ?_
  | with_reducible refine u_b2 ?_
  | with_reducible refine u_u1 ?_
  | with_reducible refine u_c ?_
  | with_reducible refine u_nil ?_
  | with_reducible refine u_cons ?_
  | with_reducible refine u_G ?_
  | with_reducible refine u_F ?_
  | with_reducible refine u_Kw ?_
  | with_reducible refine u_tup ?_
  | with_reducible refine u_test ?_
  | with_reducible refine u_notT ?_
  | with_reducible refine u_notV ?_
  | with_reducible refine u_if ?_
  | with_reducible refine u_chainLL ?_
  | with_reducible refine u_chain ?_
  | with_reducible refine u_add ?_
  | with_reducible refine u_sub ?_
  | with_reducible refine u_lt ?_
  | with_reducible refine u_le ?_
  | with_reducible refine u_gt ?_
  | with_reducible refine u_ge ?_
  | with_reducible refine u_neg ?_
  | with_reducible refine u_abs ?_
  | with_reducible refine u_max2 ?_
  | with_reducible refine u_min2 ?_
  | with_reducible refine u_eqI ?_
  | with_reducible refine u_neI ?_
  | with_reducible refine u_eqB ?_
  | with_reducible refine u_neB ?_
  | with_reducible refine u_eqS ?_
  | with_reducible refine u_neS ?_
  | with_reducible refine u_sl ?_
  | with_reducible refine u_no ?_
  | with_reducible refine u_part ?_
  | with_reducible refine u_it ?_
  | with_reducible refine u_srcS ?_
  | with_reducible refine u_srcT ?_
  | with_reducible refine u_rg1 ?_
  | with_reducible refine u_join ?_
  | with_reducible refine u_rev ?_
  | with_reducible refine u_keys ?_
  | with_reducible refine u_zip ?_
  | with_reducible refine u_fld ?_
  | with_reducible refine y_fldR ?_
  | with_reducible refine u_makeR ?_
  | with_reducible refine u_lstR ?_
  | with_reducible refine u_dspR ?_
  | with_reducible refine u_prsN ?_
  | with_reducible refine u_prsC ?_
  | with_reducible refine u_lcR ?_
  | with_reducible refine u_mbL ?_
  | with_reducible refine u_B ?_
  | with_reducible refine u_int_b ?_
  | with_reducible refine u_int_i ?_
  | with_reducible refine u_slT ?_
  | ((with_reducible apply u_var); rfl)
  | ((with_reducible apply u_isi); (first | rfl | exact tyW_ins (by walk_at "r") | exact tyW_lst (by walk_at "r") | exact tyW_dk (by walk_at "r")); rfl; walk_at "i")
  | ((with_reducible apply u_ixA); exact seqLT_of (by walk_at "r"); walk_at "x")
  | ((with_reducible apply u_ixAT); walk_at "x")
  | ((with_reducible apply u_srcL); walk_at "r")
  | ((with_reducible apply u_slS); (with_reducible assumption))
  | ((with_reducible apply u_lenS); (with_reducible assumption))
  | ((with_reducible apply u_len); (first | rfl | exact seqLT_of (by walk_at "r")))
  | ((with_reducible apply u_mod); (first | (with_reducible assumption) | omega))
  | ((with_reducible apply u_fdiv'); omega; omega)
  | ((with_reducible apply u_mulP); omega; omega)
  | ((with_reducible apply u_mulQ); omega; omega)
  | ((with_reducible apply u_powP); omega; omega; omega; omega)
  | ((with_reducible apply u_dget); walk_at "r"; rfl; walk_at "k")
  | ((with_reducible apply u_kd); walk_at "k")
  | ((with_reducible apply u_allL); walk_at "r"; rfl)
  | ((with_reducible apply u_anyL); walk_at "r"; rfl)
  | ((with_reducible apply u_catLR); walk_at "r"; walk_at "r"; rfl; walk_at "t"; (with_reducible assumption); intro _ _ _)
  | ((with_reducible apply u_slLR); walk_at "r"; walk_at "y"; (with_reducible assumption); intro _ _ _)
  | ((with_reducible apply u_listLR); (first | rfl | exact seqLT_of (by walk_at "r")); (with_reducible assumption); intro _ _ _)
  | ((with_reducible apply setR_ok (i := 0)); (with_reducible assumption); rfl; walk_at "x"; walk_at "x"; exact se0; intro _ _)
  | ((with_reducible apply setR_ok (i := 1)); (with_reducible assumption); rfl; walk_at "x"; walk_at "x"; exact se1; intro _ _)
  | ((with_reducible apply setR_ok (i := 2)); (with_reducible assumption); rfl; walk_at "x"; walk_at "x"; exact se2; intro _ _)
  | ((with_reducible apply setR_ok (i := 3)); (with_reducible assumption); rfl; walk_at "x"; walk_at "x"; exact se3; intro _ _)
  | ((with_reducible apply setR_ok (i := 4)); (with_reducible assumption); rfl; walk_at "x"; walk_at "x"; exact se4; intro _ _)
  | ((with_reducible apply setR_ok (i := 5)); (with_reducible assumption); rfl; walk_at "x"; walk_at "x"; exact se5; intro _ _)
  | ((with_reducible apply u_appendR (i := 0)); (with_reducible assumption); rfl; rfl; walk_at "x"; exact se0; intro _ _)
  | ((with_reducible apply u_appendR (i := 1)); (with_reducible assumption); rfl; rfl; walk_at "x"; exact se1; intro _ _)
  | ((with_reducible apply u_appendR (i := 2)); (with_reducible assumption); rfl; rfl; walk_at "x"; exact se2; intro _ _)
  | ((with_reducible apply u_appendR (i := 3)); (with_reducible assumption); rfl; rfl; walk_at "x"; exact se3; intro _ _)
  | ((with_reducible apply u_appendR (i := 4)); (with_reducible assumption); rfl; rfl; walk_at "x"; exact se4; intro _ _)
  | ((with_reducible apply u_appendR (i := 5)); (with_reducible assumption); rfl; rfl; walk_at "x"; exact se5; intro _ _)
  | with_reducible refine ⟨_, _, _, rfl, rfl, rfl, rfl, ?_⟩
  | with_reducible refine ⟨_, rfl, ?_⟩
  | ((with_reducible apply lst_go); rfl; (with_reducible assumption); intro _ _ _)
  | ((with_reducible apply make_go'); rfl; rfl; (with_reducible assumption); intro _ _ _)
  | ((with_reducible apply kwd_go); rfl; rfl)
  | ((with_reducible apply len_go); rfl)
  | ((with_reducible apply tup_go); rfl)
  | ((with_reducible apply fld_go); walk_at "r"; (first | exact List.mem_singleton_self _ | simp); walk_at "k")
  | ((with_reducible apply mb_go); walk_at "r")
  | ((with_reducible apply zip_go); walk_at "r"; walk_at "r")
  | ((with_reducible apply dsp_go); (with_reducible assumption); rfl; walk_at "m"; intro _ _)
  | ((with_reducible apply key_go); rfl)
  | ((with_reducible apply lcc_go (i := 0)); (with_reducible assumption); rfl; rfl; walk_at "x"; exact se0; intro _ _)
  | ((with_reducible apply lcc_go (i := 1)); (with_reducible assumption); rfl; rfl; walk_at "x"; exact se1; intro _ _)
  | ((with_reducible apply lcc_go (i := 2)); (with_reducible assumption); rfl; rfl; walk_at "x"; exact se2; intro _ _)
  | ((with_reducible apply lcc_go (i := 3)); (with_reducible assumption); rfl; rfl; walk_at "x"; exact se3; intro _ _)
  | ((with_reducible apply lcc_go (i := 4)); (with_reducible assumption); rfl; rfl; walk_at "x"; exact se4; intro _ _)
  | ((with_reducible apply lcc_go (i := 5)); (with_reducible assumption); rfl; rfl; walk_at "x"; exact se5; intro _ _)
  | ((with_reducible apply xfld_go (i := 0)); (with_reducible assumption); rfl; (first | exact List.mem_singleton_self _ | simp); rfl; walk_at "p"; exact se0; intro _ _)
  | ((with_reducible apply xfld_go (i := 1)); (with_reducible assumption); rfl; (first | exact List.mem_singleton_self _ | simp); rfl; walk_at "p"; exact se1; intro _ _)
  | ((with_reducible apply xfld_go (i := 2)); (with_reducible assumption); rfl; (first | exact List.mem_singleton_self _ | simp); rfl; walk_at "p"; exact se2; intro _ _)
  | ((with_reducible apply xfld_go (i := 3)); (with_reducible assumption); rfl; (first | exact List.mem_singleton_self _ | simp); rfl; walk_at "p"; exact se3; intro _ _)
  | ((with_reducible apply xfld_go (i := 4)); (with_reducible assumption); rfl; (first | exact List.mem_singleton_self _ | simp); rfl; walk_at "p"; exact se4; intro _ _)
  | ((with_reducible apply xfld_go (i := 5)); (with_reducible assumption); rfl; (first | exact List.mem_singleton_self _ | simp); rfl; walk_at "p"; exact se5; intro _ _)
  | ((with_reducible apply new_go); (with_reducible assumption); intro _ _ _))
local macro_rules | `(tactic| walk_at "l") => `(tactic| first
  | refine u_lcC trivial rfl ?_ | refine u_lcN trivial ?_ | refine u_lcC (seqL_of (by walk_at "r")) rfl ?_ | refine u_lcN (seqL_of (by walk_at "r")) ?_
  | refine u_lcC ⟨seqL_of (by walk_at "r"), seqL_of (by walk_at "r")⟩ rfl ?_ | refine u_lcN ⟨seqL_of (by walk_at "r"), seqL_of (by walk_at "r")⟩ ?_
  | refine y_lpC trivial ?_ | refine y_lpN trivial ?_ | refine y_lpC (seqL_of (by walk_at "r")) ?_ | refine y_lpN (seqL_of (by walk_at "r")) ?_)
local macro_rules | `(tactic| walk_at "a") => `(tactic| with_reducible first | refine u_andT ?_ | refine u_orT ?_ | refine u_andV ?_ | refine u_orV ?_)
local macro_rules | `(tactic| walk_at "P") => `(tactic| first
  | (with_reducible refine u_andTP ?_) | (with_reducible refine u_orTP ?_) | (with_reducible refine u_andVP ?_) | (with_reducible refine u_orVP ?_)
  | ((with_reducible apply i_andp_go); (intro _; walk_at "gp"; exact ⟨rfl, rfl⟩)) | ((with_reducible apply i_orp_go); (intro _; walk_at "gp"; exact ⟨rfl, rfl⟩)) | ((with_reducible apply i_andtp_go); (intro _; walk_at "gp"; exact ⟨rfl, rfl⟩)) | ((with_reducible apply i_ortp_go); (intro _; walk_at "gp"; exact ⟨rfl, rfl⟩)))
local macro_rules | `(tactic| walk_at "gp") => `(tactic| repeat first | walk_at "s" | walk_at "P" | walk_at "c" | walk_at "d" | walk_at "l")
local macro_rules | `(tactic| walk_at "g") => `(tactic| repeat first | walk_at "s" | walk_at "a" | walk_at "c" | walk_at "d" | walk_at "l")
local macro_rules | `(tactic| walk_at "d") => `(tactic| first | ((with_reducible apply take_R (i := 0)); (with_reducible assumption); rfl; (with_reducible assumption); (first | omega | (rfl)); (first | omega | rfl); (exact fun _ _ => se0); intro _ _ _ _ _ _ _ _) | ((with_reducible apply take_R (i := 1)); (with_reducible assumption); rfl; (with_reducible assumption); (first | omega | (rfl)); (first | omega | rfl); (exact fun _ _ => se1); intro _ _ _ _ _ _ _ _) | ((with_reducible apply take_R (i := 2)); (with_reducible assumption); rfl; (with_reducible assumption); (first | omega | (rfl)); (first | omega | rfl); (exact fun _ _ => se2); intro _ _ _ _ _ _ _ _) | ((with_reducible apply take_R (i := 3)); (with_reducible assumption); rfl; (with_reducible assumption); (first | omega | (rfl)); (first | omega | rfl); (exact fun _ _ => se3); intro _ _ _ _ _ _ _ _) | ((with_reducible apply take_R (i := 4)); (with_reducible assumption); rfl; (with_reducible assumption); (first | omega | (rfl)); (first | omega | rfl); (exact fun _ _ => se4); intro _ _ _ _ _ _ _ _) | ((with_reducible apply take_R (i := 5)); (with_reducible assumption); rfl; (with_reducible assumption); (first | omega | (rfl)); (first | omega | rfl); (exact fun _ _ => se5); intro _ _ _ _ _ _ _ _) | ((with_reducible apply take_R (i := 6)); (with_reducible assumption); rfl; (with_reducible assumption); (first | omega | (rfl)); (first | omega | rfl); (exact fun _ _ => se6); intro _ _ _ _ _ _ _ _) | ((with_reducible apply take_R (i := 7)); (with_reducible assumption); rfl; (with_reducible assumption); (first | omega | (rfl)); (first | omega | rfl); (exact fun _ _ => se7); intro _ _ _ _ _ _ _ _) | ((with_reducible apply take_R (i := 8)); (with_reducible assumption); rfl; (with_reducible assumption); (first | omega | (rfl)); (first | omega | rfl); (exact fun _ _ => se8); intro _ _ _ _ _ _ _ _) | ((with_reducible apply take_R (i := 9)); (with_reducible assumption); rfl; (with_reducible assumption); (first | omega | (rfl)); (first | omega | rfl); (exact fun _ _ => se9); intro _ _ _ _ _ _ _ _))
local macro_rules | `(tactic| walk_at "ind1") => `(tactic| first
  | with_reducible exact ie_is | with_reducible exact ie_c | with_reducible exact ie_nil | with_reducible exact ie_mB | with_reducible exact is_nx | with_reducible exact ig_nil | with_reducible exact is_rt
  | ((with_reducible apply ie_var); decide) | with_reducible apply ie_cons | with_reducible apply ie_tup | with_reducible apply ie_lst | with_reducible apply ie_G | with_reducible apply ie_b2
  | with_reducible apply ie_test | with_reducible apply ie_notT | with_reducible apply ie_notV | with_reducible apply ie_andT | with_reducible apply ie_orT | with_reducible apply ie_andV | with_reducible apply ie_orV
  | with_reducible apply ie_if | with_reducible apply ie_itL | ((with_reducible apply ig_nm); decide) | with_reducible apply ig_cons | with_reducible apply ig_tp | ((with_reducible refine ie_lc ?_ ?_ ?_ ?_ (by decide)))
  | with_reducible apply is_seq | ((with_reducible refine is_asg ?_ (by decide))) | with_reducible apply is_ret | with_reducible apply is_exp | with_reducible apply is_if | with_reducible apply ie_F)
local macro_rules | `(tactic| walk_at "ind") => `(tactic| repeat walk_at "ind1")
local macro_rules | `(tactic| walk_at "xi") => `(tactic| with_reducible first | exact xi_NoName_Came (by assumption) | exact xi_NoName_Claimed (by assumption) | exact xi_NoName_Due (by assumption) | exact xi_NoName_Early (by assumption) | exact xi_NoName_IsOn (by assumption) | exact xi_NoName_LookupError (by assumption) | exact xi_NoName_NoBounds (by assumption) | exact xi_NoName_NoClaim (by assumption) | exact xi_NoName_NoHand (by assumption) | exact xi_NoName_NoHands (by assumption) | exact xi_NoName_NoLess (by assumption) | exact xi_NoName_NoLetter (by assumption) | exact xi_NoName_NoMark (by assumption) | exact xi_NoName_NoName (by assumption) | exact xi_NoName_NoNext (by assumption) | exact xi_NoName_NoPaper (by assumption) | exact xi_NoName_NoRule (by assumption) | exact xi_NoName_NoSaying (by assumption) | exact xi_NoName_NoScript (by assumption) | exact xi_NoName_NoTries (by assumption) | exact xi_NoName_NoWire (by assumption) | exact xi_NoName_NotEmpty (by assumption) | exact xi_NoName_NotOn (by assumption) | exact xi_NoName_Owed (by assumption) | exact xi_NoName_SameWire (by assumption) | exact xi_NoName_TooMany (by assumption) | exact xi_NoName_ValueError (by assumption) | exact xi_NoName_WireError (by assumption) | exact xi_NoNext_Came (by assumption) | exact xi_NoNext_Claimed (by assumption) | exact xi_NoNext_Due (by assumption) | exact xi_NoNext_Early (by assumption) | exact xi_NoNext_IsOn (by assumption) | exact xi_NoNext_LookupError (by assumption) | exact xi_NoNext_NoBounds (by assumption) | exact xi_NoNext_NoClaim (by assumption) | exact xi_NoNext_NoHand (by assumption) | exact xi_NoNext_NoHands (by assumption) | exact xi_NoNext_NoLess (by assumption) | exact xi_NoNext_NoLetter (by assumption) | exact xi_NoNext_NoMark (by assumption) | exact xi_NoNext_NoName (by assumption) | exact xi_NoNext_NoNext (by assumption) | exact xi_NoNext_NoPaper (by assumption) | exact xi_NoNext_NoRule (by assumption) | exact xi_NoNext_NoSaying (by assumption) | exact xi_NoNext_NoScript (by assumption) | exact xi_NoNext_NoTries (by assumption) | exact xi_NoNext_NoWire (by assumption) | exact xi_NoNext_NotEmpty (by assumption) | exact xi_NoNext_NotOn (by assumption) | exact xi_NoNext_Owed (by assumption) | exact xi_NoNext_SameWire (by assumption) | exact xi_NoNext_TooMany (by assumption) | exact xi_NoNext_ValueError (by assumption) | exact xi_NoNext_WireError (by assumption))
section
variable {A : Ad} {bs : List Blk} {h : Hv} {Q : W → Hv → Prop} {X : XH}
theorem which_ind {D a : Addr} (h : Hv) : F_law_which A a D [.gl a] h = F_law_which A 0 D [.gl 0] h := ind_runB (by unfold m_law_which; walk_at "ind") h
theorem which_NoName (hx : Cons (tabX A)) (H : Rp bs h) (q : ∀ h', Rp bs h' → Q (.str "NoName") h') : eW (F_law_which A 0 A.a_NoName [.gl 0] h) Q X := by
  have r : wE (runB 7 (whM (isxT (tabX A)) 0 A.a_NoName [("NoName", .gl A.a_NoName), ("NoMark", .gl A.a_NoMark), ("NoTries", .gl A.a_NoTries)] [("NoBounds", .gl A.a_NoBounds), ("NoRule", .gl A.a_NoRule)] [("NoNext", .gl A.a_NoNext), ("NoScript", .gl A.a_NoScript)] [("NoSaying", .gl A.a_NoSaying), ("NoHands", .gl A.a_NoHands)] [("Claimed", .gl A.a_Claimed), ("NoClaim", .gl A.a_NoClaim)] [("TooMany", .gl A.a_TooMany), ("SameWire", .gl A.a_SameWire)] [("NotEmpty", .gl A.a_NotEmpty), ("Early", .gl A.a_Early)] [("Came", .gl A.a_Came), ("Owed", .gl A.a_Owed), ("Due", .gl A.a_Due)] [("NoLess", .gl A.a_NoLess), ("NoPaper", .gl A.a_NoPaper)] [("NoHand", .gl A.a_NoHand), ("NoWire", .gl A.a_NoWire), ("NotOn", .gl A.a_NotOn)] [("IsOn", .gl A.a_IsOn), ("NoLetter", .gl A.a_NoLetter)] (.gl A.a_WireError)) [.gl 0] h) Q X :=
    wh_ok (val := valX (tabX A) A.a_NoName) (word := "NoName") (lk := false) H ((vc (xi_NoName_NoName hx) (vc (xi_NoName_NoMark hx) (vc (xi_NoName_NoTries hx) (vc (xi_NoName_NoBounds hx) (vc (xi_NoName_NoRule hx) (vc (xi_NoName_NoNext hx) (vc (xi_NoName_NoScript hx) (vc (xi_NoName_NoSaying hx) (vc (xi_NoName_NoHands hx) (vc (xi_NoName_Claimed hx) (vc (xi_NoName_NoClaim hx) (vc (xi_NoName_TooMany hx) (vc (xi_NoName_SameWire hx) (vc (xi_NoName_NotEmpty hx) (vc (xi_NoName_Early hx) (vc (xi_NoName_Came hx) (vc (xi_NoName_Owed hx) (vc (xi_NoName_Due hx) (vc (xi_NoName_NoLess hx) (vc (xi_NoName_NoPaper hx) vn))))))))))))))))))))) ((vc (xi_NoName_NoHand hx) (vc (xi_NoName_NoWire hx) (vc (xi_NoName_NotOn hx) (vc (xi_NoName_IsOn hx) (vc (xi_NoName_NoLetter hx) vn)))))) (Nat.le_of_ble_eq_true rfl) (Nat.le_of_ble_eq_true rfl)
      (by simp only [List.cons_append, List.nil_append, List.filter_cons, valX_gl (xi_NoName_NoName hx), valX_gl (xi_NoName_NoMark hx), valX_gl (xi_NoName_NoTries hx), valX_gl (xi_NoName_NoBounds hx), valX_gl (xi_NoName_NoRule hx), valX_gl (xi_NoName_NoNext hx), valX_gl (xi_NoName_NoScript hx), valX_gl (xi_NoName_NoSaying hx), valX_gl (xi_NoName_NoHands hx), valX_gl (xi_NoName_Claimed hx), valX_gl (xi_NoName_NoClaim hx), valX_gl (xi_NoName_TooMany hx), valX_gl (xi_NoName_SameWire hx), valX_gl (xi_NoName_NotEmpty hx), valX_gl (xi_NoName_Early hx), valX_gl (xi_NoName_Came hx), valX_gl (xi_NoName_Owed hx), valX_gl (xi_NoName_Due hx), valX_gl (xi_NoName_NoLess hx), valX_gl (xi_NoName_NoPaper hx), valX_gl (xi_NoName_NoHand hx), valX_gl (xi_NoName_NoWire hx), valX_gl (xi_NoName_NotOn hx), valX_gl (xi_NoName_IsOn hx), valX_gl (xi_NoName_NoLetter hx), Bool.false_eq_true, if_true, if_false, List.filter_nil, List.map_cons, List.map_nil])
      (by simp only [List.cons_append, List.nil_append, List.map_cons, List.map_nil, valX_gl (xi_NoName_NoName hx), valX_gl (xi_NoName_NoMark hx), valX_gl (xi_NoName_NoTries hx), valX_gl (xi_NoName_NoBounds hx), valX_gl (xi_NoName_NoRule hx), valX_gl (xi_NoName_NoNext hx), valX_gl (xi_NoName_NoScript hx), valX_gl (xi_NoName_NoSaying hx), valX_gl (xi_NoName_NoHands hx), valX_gl (xi_NoName_Claimed hx), valX_gl (xi_NoName_NoClaim hx), valX_gl (xi_NoName_TooMany hx), valX_gl (xi_NoName_SameWire hx), valX_gl (xi_NoName_NotEmpty hx), valX_gl (xi_NoName_Early hx), valX_gl (xi_NoName_Came hx), valX_gl (xi_NoName_Owed hx), valX_gl (xi_NoName_Due hx), valX_gl (xi_NoName_NoLess hx), valX_gl (xi_NoName_NoPaper hx), valX_gl (xi_NoName_NoHand hx), valX_gl (xi_NoName_NoWire hx), valX_gl (xi_NoName_NotOn hx), valX_gl (xi_NoName_IsOn hx), valX_gl (xi_NoName_NoLetter hx)]; rfl) (xi_NoName_LookupError hx) ⟨_, rfl, xi_NoName_WireError hx⟩ (xi_NoName_ValueError hx) q
  with_unfolding_all exact r
theorem which_NoNext (hx : Cons (tabX A)) (H : Rp bs h) (q : ∀ h', Rp bs h' → Q (.str "NoNext") h') : eW (F_law_which A 0 A.a_NoNext [.gl 0] h) Q X := by
  have r : wE (runB 7 (whM (isxT (tabX A)) 0 A.a_NoNext [("NoName", .gl A.a_NoName), ("NoMark", .gl A.a_NoMark), ("NoTries", .gl A.a_NoTries)] [("NoBounds", .gl A.a_NoBounds), ("NoRule", .gl A.a_NoRule)] [("NoNext", .gl A.a_NoNext), ("NoScript", .gl A.a_NoScript)] [("NoSaying", .gl A.a_NoSaying), ("NoHands", .gl A.a_NoHands)] [("Claimed", .gl A.a_Claimed), ("NoClaim", .gl A.a_NoClaim)] [("TooMany", .gl A.a_TooMany), ("SameWire", .gl A.a_SameWire)] [("NotEmpty", .gl A.a_NotEmpty), ("Early", .gl A.a_Early)] [("Came", .gl A.a_Came), ("Owed", .gl A.a_Owed), ("Due", .gl A.a_Due)] [("NoLess", .gl A.a_NoLess), ("NoPaper", .gl A.a_NoPaper)] [("NoHand", .gl A.a_NoHand), ("NoWire", .gl A.a_NoWire), ("NotOn", .gl A.a_NotOn)] [("IsOn", .gl A.a_IsOn), ("NoLetter", .gl A.a_NoLetter)] (.gl A.a_WireError)) [.gl 0] h) Q X :=
    wh_ok (val := valX (tabX A) A.a_NoNext) (word := "NoNext") (lk := false) H ((vc (xi_NoNext_NoName hx) (vc (xi_NoNext_NoMark hx) (vc (xi_NoNext_NoTries hx) (vc (xi_NoNext_NoBounds hx) (vc (xi_NoNext_NoRule hx) (vc (xi_NoNext_NoNext hx) (vc (xi_NoNext_NoScript hx) (vc (xi_NoNext_NoSaying hx) (vc (xi_NoNext_NoHands hx) (vc (xi_NoNext_Claimed hx) (vc (xi_NoNext_NoClaim hx) (vc (xi_NoNext_TooMany hx) (vc (xi_NoNext_SameWire hx) (vc (xi_NoNext_NotEmpty hx) (vc (xi_NoNext_Early hx) (vc (xi_NoNext_Came hx) (vc (xi_NoNext_Owed hx) (vc (xi_NoNext_Due hx) (vc (xi_NoNext_NoLess hx) (vc (xi_NoNext_NoPaper hx) vn))))))))))))))))))))) ((vc (xi_NoNext_NoHand hx) (vc (xi_NoNext_NoWire hx) (vc (xi_NoNext_NotOn hx) (vc (xi_NoNext_IsOn hx) (vc (xi_NoNext_NoLetter hx) vn)))))) (Nat.le_of_ble_eq_true rfl) (Nat.le_of_ble_eq_true rfl)
      (by simp only [List.cons_append, List.nil_append, List.filter_cons, valX_gl (xi_NoNext_NoName hx), valX_gl (xi_NoNext_NoMark hx), valX_gl (xi_NoNext_NoTries hx), valX_gl (xi_NoNext_NoBounds hx), valX_gl (xi_NoNext_NoRule hx), valX_gl (xi_NoNext_NoNext hx), valX_gl (xi_NoNext_NoScript hx), valX_gl (xi_NoNext_NoSaying hx), valX_gl (xi_NoNext_NoHands hx), valX_gl (xi_NoNext_Claimed hx), valX_gl (xi_NoNext_NoClaim hx), valX_gl (xi_NoNext_TooMany hx), valX_gl (xi_NoNext_SameWire hx), valX_gl (xi_NoNext_NotEmpty hx), valX_gl (xi_NoNext_Early hx), valX_gl (xi_NoNext_Came hx), valX_gl (xi_NoNext_Owed hx), valX_gl (xi_NoNext_Due hx), valX_gl (xi_NoNext_NoLess hx), valX_gl (xi_NoNext_NoPaper hx), valX_gl (xi_NoNext_NoHand hx), valX_gl (xi_NoNext_NoWire hx), valX_gl (xi_NoNext_NotOn hx), valX_gl (xi_NoNext_IsOn hx), valX_gl (xi_NoNext_NoLetter hx), Bool.false_eq_true, if_true, if_false, List.filter_nil, List.map_cons, List.map_nil])
      (by simp only [List.cons_append, List.nil_append, List.map_cons, List.map_nil, valX_gl (xi_NoNext_NoName hx), valX_gl (xi_NoNext_NoMark hx), valX_gl (xi_NoNext_NoTries hx), valX_gl (xi_NoNext_NoBounds hx), valX_gl (xi_NoNext_NoRule hx), valX_gl (xi_NoNext_NoNext hx), valX_gl (xi_NoNext_NoScript hx), valX_gl (xi_NoNext_NoSaying hx), valX_gl (xi_NoNext_NoHands hx), valX_gl (xi_NoNext_Claimed hx), valX_gl (xi_NoNext_NoClaim hx), valX_gl (xi_NoNext_TooMany hx), valX_gl (xi_NoNext_SameWire hx), valX_gl (xi_NoNext_NotEmpty hx), valX_gl (xi_NoNext_Early hx), valX_gl (xi_NoNext_Came hx), valX_gl (xi_NoNext_Owed hx), valX_gl (xi_NoNext_Due hx), valX_gl (xi_NoNext_NoLess hx), valX_gl (xi_NoNext_NoPaper hx), valX_gl (xi_NoNext_NoHand hx), valX_gl (xi_NoNext_NoWire hx), valX_gl (xi_NoNext_NotOn hx), valX_gl (xi_NoNext_IsOn hx), valX_gl (xi_NoNext_NoLetter hx)]; rfl) (xi_NoNext_LookupError hx) ⟨_, rfl, xi_NoNext_WireError hx⟩ (xi_NoNext_ValueError hx) q
  with_unfolding_all exact r
end
end K02
namespace K02
open PySem L2 Z
local macro_rules | `(tactic| walk_at "b") => `(tactic| first | rfl | (with_reducible assumption) | (simp only [Bool.not_eq_true', Bool.not_eq_false', decide_eq_true_eq, decide_eq_false_iff_not, Bool.not_eq_true, Bool.not_eq_false, Bool.and_eq_true, Bool.or_eq_true, Bool.and_eq_false_iff, Bool.or_eq_false_iff, Bool.not_true, Bool.not_false, decide_true, decide_false, List.all_cons, List.all_nil, List.any_cons, List.any_nil, id_eq, Bool.and_true, Bool.true_and, Bool.false_or, Bool.or_false, Bool.and_self, and_true, true_and, beq_self_eq_true] <;> omega))
local macro_rules | `(tactic| walk_at "k") => `(tactic| rfl)
local macro_rules | `(tactic| walk_at "p") => `(tactic| rfl)
local macro_rules | `(tactic| walk_at "m") => `(tactic| rfl)
local macro_rules | `(tactic| walk_at "i") => `(tactic| rfl)
local macro_rules | `(tactic| walk_at "y") => `(tactic| first | exact ct0 | exact cd0 | exact ct1 | exact cd1 | exact ct2 | exact cd2 | exact ct3 | exact cd3 | exact ct4 | exact cd4 | exact ct5 | exact cd5 | exact ct6 | exact cd6)
local macro_rules | `(tactic| walk_at "t") => `(tactic| ((repeat (with_reducible apply cat_cons)); exact List.nil_append _))
local macro_rules | `(tactic| walk_at "x") => `(tactic| with_reducible first | exact ix0 | exact ix1 | exact ix2 | exact ix3 | exact ix4 | exact ix5 | exact ix6 | exact ix7 | exact ix8 | exact ix9 | exact ix10 | exact ix11 | exact iy0 | exact iy1 | exact iy2 | exact iy3 | exact iy4 | exact iy5 | exact iy6 | exact iy7 | exact iy8 | exact iy9 | exact iy10 | exact iy11 | exact se0 | exact se1 | exact se2 | exact se3 | exact se4 | exact se5 | exact se6 | exact se7 | exact se8 | exact se9 | exact se10 | exact se11 | exact ap0 | exact ap1 | exact ap2 | exact ap3 | exact ap4 | exact ap5 | exact ap6 | exact ap7 | exact ap8 | exact ap9 | exact ap10 | exact ap11)
local macro_rules | `(tactic| walk_at "r") => `(tactic| first | (with_reducible assumption) | exact Rp.at (by with_reducible assumption) 0 (by rfl) | exact Rp.at (by with_reducible assumption) 1 (by rfl) | exact Rp.at (by with_reducible assumption) 2 (by rfl) | exact Rp.at (by with_reducible assumption) 3 (by rfl) | exact Rp.at (by with_reducible assumption) 4 (by rfl) | exact Rp.at (by with_reducible assumption) 5 (by rfl) | exact Rp.at (by with_reducible assumption) 6 (by rfl) | exact Rp.at (by with_reducible assumption) 7 (by rfl) | exact Rp.at (by with_reducible assumption) 8 (by rfl) | exact Rp.at (by with_reducible assumption) 9 (by rfl) | exact Rp.at (by with_reducible assumption) 10 (by rfl) | exact Rp.at (by with_reducible assumption) 11 (by rfl) | exact Rp.at (by with_reducible assumption) 12 (by rfl))
local macro_rules | `(tactic| walk_at "c") => `(tactic| first
  | ((with_reducible apply tt_of); omega)
  | ((with_reducible apply ff_of); omega)
  | ((with_reducible apply tt_of'); omega)
  | ((with_reducible apply ff_of'); omega)
  | ((with_reducible apply tt_b); walk_at "b")
  | ((with_reducible apply ff_b); walk_at "b")
  | ((with_reducible apply tt_b'); walk_at "b")
  | ((with_reducible apply ff_b'); walk_at "b"))
local macro_rules | `(tactic| walk_at "s") => `(tactic| first
  | with_reducible refine y_seq ?_
  | with_reducible refine y_asg ?_
  | with_reducible refine y_if ?_
  | with_reducible refine y_exp ?_
  | with_reducible refine y_ret ?_
  | with_reducible refine y_nm ?_
  | with_reducible refine y_nx ?_
  | with_reducible refine y_rt ?_
  | with_reducible refine y_bk ?_
  | with_reducible refine y_ct ?_
  | with_reducible refine y_tp rfl ?_
  | with_reducible refine y_gcons ?_
  | with_reducible refine y_gnil ?_
  | with_reducible refine y_nxo ?_
  | with_reducible refine y_subM ?_
  | with_reducible refine u_par ?_
  | with_reducible refine u_b2 ?_
  | with_reducible refine u_u1 ?_
  | with_reducible refine u_c ?_
  | with_reducible refine u_nil ?_
  | with_reducible refine u_cons ?_
  | with_reducible refine u_G ?_
  | with_reducible refine u_F ?_
  | with_reducible refine u_Kw ?_
  | with_reducible refine u_tup ?_
  | with_reducible refine u_test ?_
  | with_reducible refine u_notT ?_
  | with_reducible refine u_notV ?_
  | with_reducible refine u_if ?_
  | with_reducible refine u_chainLL ?_
  | with_reducible refine u_chain ?_
  | with_reducible refine u_add ?_
  | with_reducible refine u_sub ?_
  | with_reducible refine u_lt ?_
  | with_reducible refine u_le ?_
  | with_reducible refine u_gt ?_
  | with_reducible refine u_ge ?_
  | with_reducible refine u_neg ?_
  | with_reducible refine u_abs ?_
  | with_reducible refine u_max2 ?_
  | with_reducible refine u_min2 ?_
  | with_reducible refine u_eqI ?_
  | with_reducible refine u_neI ?_
  | with_reducible refine u_eqB ?_
  | with_reducible refine u_neB ?_
  | with_reducible refine u_eqS ?_
  | with_reducible refine u_neS ?_
  | with_reducible refine u_sl ?_
  | with_reducible refine u_no ?_
  | with_reducible refine u_part ?_
  | with_reducible refine u_it ?_
  | with_reducible refine u_srcS ?_
  | with_reducible refine u_srcT ?_
  | with_reducible refine u_rg1 ?_
  | with_reducible refine u_join ?_
  | with_reducible refine u_rev ?_
  | with_reducible refine u_keys ?_
  | with_reducible refine u_zip ?_
  | with_reducible refine u_fld ?_
  | with_reducible refine y_fldR ?_
  | with_reducible refine u_makeR ?_
  | with_reducible refine u_lstR ?_
  | with_reducible refine u_dspR ?_
  | with_reducible refine u_prsN ?_
  | with_reducible refine u_prsC ?_
  | with_reducible refine u_lcR ?_
  | with_reducible refine u_mbL ?_
  | with_reducible refine u_B ?_
  | with_reducible refine u_int_b ?_
  | with_reducible refine u_int_i ?_
  | with_reducible refine u_slT ?_
  | ((with_reducible apply u_var); rfl)
  | ((with_reducible apply u_isi); (first | rfl | exact tyW_ins (by walk_at "r") | exact tyW_lst (by walk_at "r") | exact tyW_dk (by walk_at "r")); rfl; walk_at "i")
  | ((with_reducible apply u_ixA); exact seqLT_of (by walk_at "r"); walk_at "x")
  | ((with_reducible apply u_ixAT); walk_at "x")
  | ((with_reducible apply u_srcL); walk_at "r")
  | ((with_reducible apply u_slS); (with_reducible assumption))
  | ((with_reducible apply u_lenS); (with_reducible assumption))
  | ((with_reducible apply u_len); (first | rfl | exact seqLT_of (by walk_at "r")))
  | ((with_reducible apply u_mod); (first | (with_reducible assumption) | omega))
  | ((with_reducible apply u_fdiv'); omega; omega)
  | ((with_reducible apply u_mulP); omega; omega)
  | ((with_reducible apply u_mulQ); omega; omega)
  | ((with_reducible apply u_powP); omega; omega; omega; omega)
  | ((with_reducible apply u_dget); walk_at "r"; rfl; walk_at "k")
  | ((with_reducible apply u_kd); walk_at "k")
  | ((with_reducible apply u_allL); walk_at "r"; rfl)
  | ((with_reducible apply u_anyL); walk_at "r"; rfl)
  | ((with_reducible apply u_catLR); walk_at "r"; walk_at "r"; rfl; walk_at "t"; (with_reducible assumption); intro _ _ _)
  | ((with_reducible apply u_slLR); walk_at "r"; walk_at "y"; (with_reducible assumption); intro _ _ _)
  | ((with_reducible apply u_listLR); (first | rfl | exact seqLT_of (by walk_at "r")); (with_reducible assumption); intro _ _ _)
  | ((with_reducible apply setR_ok (i := 0)); (with_reducible assumption); rfl; walk_at "x"; walk_at "x"; exact se0; intro _ _)
  | ((with_reducible apply setR_ok (i := 1)); (with_reducible assumption); rfl; walk_at "x"; walk_at "x"; exact se1; intro _ _)
  | ((with_reducible apply setR_ok (i := 2)); (with_reducible assumption); rfl; walk_at "x"; walk_at "x"; exact se2; intro _ _)
  | ((with_reducible apply setR_ok (i := 3)); (with_reducible assumption); rfl; walk_at "x"; walk_at "x"; exact se3; intro _ _)
  | ((with_reducible apply setR_ok (i := 4)); (with_reducible assumption); rfl; walk_at "x"; walk_at "x"; exact se4; intro _ _)
  | ((with_reducible apply setR_ok (i := 5)); (with_reducible assumption); rfl; walk_at "x"; walk_at "x"; exact se5; intro _ _)
  | ((with_reducible apply u_appendR (i := 0)); (with_reducible assumption); rfl; rfl; walk_at "x"; exact se0; intro _ _)
  | ((with_reducible apply u_appendR (i := 1)); (with_reducible assumption); rfl; rfl; walk_at "x"; exact se1; intro _ _)
  | ((with_reducible apply u_appendR (i := 2)); (with_reducible assumption); rfl; rfl; walk_at "x"; exact se2; intro _ _)
  | ((with_reducible apply u_appendR (i := 3)); (with_reducible assumption); rfl; rfl; walk_at "x"; exact se3; intro _ _)
  | ((with_reducible apply u_appendR (i := 4)); (with_reducible assumption); rfl; rfl; walk_at "x"; exact se4; intro _ _)
  | ((with_reducible apply u_appendR (i := 5)); (with_reducible assumption); rfl; rfl; walk_at "x"; exact se5; intro _ _)
  | with_reducible refine ⟨_, _, _, rfl, rfl, rfl, rfl, ?_⟩
  | with_reducible refine ⟨_, rfl, ?_⟩
  | ((with_reducible apply lst_go); rfl; (with_reducible assumption); intro _ _ _)
  | ((with_reducible apply make_go'); rfl; rfl; (with_reducible assumption); intro _ _ _)
  | ((with_reducible apply kwd_go); rfl; rfl)
  | ((with_reducible apply len_go); rfl)
  | ((with_reducible apply tup_go); rfl)
  | ((with_reducible apply fld_go); walk_at "r"; (first | exact List.mem_singleton_self _ | simp); walk_at "k")
  | ((with_reducible apply mb_go); walk_at "r")
  | ((with_reducible apply zip_go); walk_at "r"; walk_at "r")
  | ((with_reducible apply dsp_go); (with_reducible assumption); rfl; walk_at "m"; intro _ _)
  | ((with_reducible apply key_go); rfl)
  | ((with_reducible apply lcc_go (i := 0)); (with_reducible assumption); rfl; rfl; walk_at "x"; exact se0; intro _ _)
  | ((with_reducible apply lcc_go (i := 1)); (with_reducible assumption); rfl; rfl; walk_at "x"; exact se1; intro _ _)
  | ((with_reducible apply lcc_go (i := 2)); (with_reducible assumption); rfl; rfl; walk_at "x"; exact se2; intro _ _)
  | ((with_reducible apply lcc_go (i := 3)); (with_reducible assumption); rfl; rfl; walk_at "x"; exact se3; intro _ _)
  | ((with_reducible apply lcc_go (i := 4)); (with_reducible assumption); rfl; rfl; walk_at "x"; exact se4; intro _ _)
  | ((with_reducible apply lcc_go (i := 5)); (with_reducible assumption); rfl; rfl; walk_at "x"; exact se5; intro _ _)
  | ((with_reducible apply xfld_go (i := 0)); (with_reducible assumption); rfl; (first | exact List.mem_singleton_self _ | simp); rfl; walk_at "p"; exact se0; intro _ _)
  | ((with_reducible apply xfld_go (i := 1)); (with_reducible assumption); rfl; (first | exact List.mem_singleton_self _ | simp); rfl; walk_at "p"; exact se1; intro _ _)
  | ((with_reducible apply xfld_go (i := 2)); (with_reducible assumption); rfl; (first | exact List.mem_singleton_self _ | simp); rfl; walk_at "p"; exact se2; intro _ _)
  | ((with_reducible apply xfld_go (i := 3)); (with_reducible assumption); rfl; (first | exact List.mem_singleton_self _ | simp); rfl; walk_at "p"; exact se3; intro _ _)
  | ((with_reducible apply xfld_go (i := 4)); (with_reducible assumption); rfl; (first | exact List.mem_singleton_self _ | simp); rfl; walk_at "p"; exact se4; intro _ _)
  | ((with_reducible apply xfld_go (i := 5)); (with_reducible assumption); rfl; (first | exact List.mem_singleton_self _ | simp); rfl; walk_at "p"; exact se5; intro _ _)
  | ((with_reducible apply new_go); (with_reducible assumption); intro _ _ _))
local macro_rules | `(tactic| walk_at "l") => `(tactic| first
  | refine u_lcC trivial rfl ?_ | refine u_lcN trivial ?_ | refine u_lcC (seqL_of (by walk_at "r")) rfl ?_ | refine u_lcN (seqL_of (by walk_at "r")) ?_
  | refine u_lcC ⟨seqL_of (by walk_at "r"), seqL_of (by walk_at "r")⟩ rfl ?_ | refine u_lcN ⟨seqL_of (by walk_at "r"), seqL_of (by walk_at "r")⟩ ?_
  | refine y_lpC trivial ?_ | refine y_lpN trivial ?_ | refine y_lpC (seqL_of (by walk_at "r")) ?_ | refine y_lpN (seqL_of (by walk_at "r")) ?_)
local macro_rules | `(tactic| walk_at "a") => `(tactic| with_reducible first | refine u_andT ?_ | refine u_orT ?_ | refine u_andV ?_ | refine u_orV ?_)
local macro_rules | `(tactic| walk_at "P") => `(tactic| first
  | (with_reducible refine u_andTP ?_) | (with_reducible refine u_orTP ?_) | (with_reducible refine u_andVP ?_) | (with_reducible refine u_orVP ?_)
  | ((with_reducible apply i_andp_go); (intro _; walk_at "gp"; exact ⟨rfl, rfl⟩)) | ((with_reducible apply i_orp_go); (intro _; walk_at "gp"; exact ⟨rfl, rfl⟩)) | ((with_reducible apply i_andtp_go); (intro _; walk_at "gp"; exact ⟨rfl, rfl⟩)) | ((with_reducible apply i_ortp_go); (intro _; walk_at "gp"; exact ⟨rfl, rfl⟩)))
local macro_rules | `(tactic| walk_at "gp") => `(tactic| repeat first | walk_at "s" | walk_at "P" | walk_at "c" | walk_at "d" | walk_at "l")
local macro_rules | `(tactic| walk_at "g") => `(tactic| repeat first | walk_at "s" | walk_at "a" | walk_at "c" | walk_at "d" | walk_at "l")
local macro_rules | `(tactic| walk_at "d") => `(tactic| first | ((with_reducible apply take_R (i := 0)); (with_reducible assumption); rfl; (with_reducible assumption); (first | omega | (rfl)); (first | omega | rfl); (exact fun _ _ => se0); intro _ _ _ _ _ _ _ _) | ((with_reducible apply take_R (i := 1)); (with_reducible assumption); rfl; (with_reducible assumption); (first | omega | (rfl)); (first | omega | rfl); (exact fun _ _ => se1); intro _ _ _ _ _ _ _ _) | ((with_reducible apply take_R (i := 2)); (with_reducible assumption); rfl; (with_reducible assumption); (first | omega | (rfl)); (first | omega | rfl); (exact fun _ _ => se2); intro _ _ _ _ _ _ _ _) | ((with_reducible apply take_R (i := 3)); (with_reducible assumption); rfl; (with_reducible assumption); (first | omega | (rfl)); (first | omega | rfl); (exact fun _ _ => se3); intro _ _ _ _ _ _ _ _) | ((with_reducible apply take_R (i := 4)); (with_reducible assumption); rfl; (with_reducible assumption); (first | omega | (rfl)); (first | omega | rfl); (exact fun _ _ => se4); intro _ _ _ _ _ _ _ _) | ((with_reducible apply take_R (i := 5)); (with_reducible assumption); rfl; (with_reducible assumption); (first | omega | (rfl)); (first | omega | rfl); (exact fun _ _ => se5); intro _ _ _ _ _ _ _ _) | ((with_reducible apply take_R (i := 6)); (with_reducible assumption); rfl; (with_reducible assumption); (first | omega | (rfl)); (first | omega | rfl); (exact fun _ _ => se6); intro _ _ _ _ _ _ _ _) | ((with_reducible apply take_R (i := 7)); (with_reducible assumption); rfl; (with_reducible assumption); (first | omega | (rfl)); (first | omega | rfl); (exact fun _ _ => se7); intro _ _ _ _ _ _ _ _) | ((with_reducible apply take_R (i := 8)); (with_reducible assumption); rfl; (with_reducible assumption); (first | omega | (rfl)); (first | omega | rfl); (exact fun _ _ => se8); intro _ _ _ _ _ _ _ _) | ((with_reducible apply take_R (i := 9)); (with_reducible assumption); rfl; (with_reducible assumption); (first | omega | (rfl)); (first | omega | rfl); (exact fun _ _ => se9); intro _ _ _ _ _ _ _ _))
local macro_rules | `(tactic| walk_at "ind1") => `(tactic| first
  | with_reducible exact ie_is | with_reducible exact ie_c | with_reducible exact ie_nil | with_reducible exact ie_mB | with_reducible exact is_nx | with_reducible exact ig_nil | with_reducible exact is_rt
  | ((with_reducible apply ie_var); decide) | with_reducible apply ie_cons | with_reducible apply ie_tup | with_reducible apply ie_lst | with_reducible apply ie_G | with_reducible apply ie_b2
  | with_reducible apply ie_test | with_reducible apply ie_notT | with_reducible apply ie_notV | with_reducible apply ie_andT | with_reducible apply ie_orT | with_reducible apply ie_andV | with_reducible apply ie_orV
  | with_reducible apply ie_if | with_reducible apply ie_itL | ((with_reducible apply ig_nm); decide) | with_reducible apply ig_cons | with_reducible apply ig_tp | ((with_reducible refine ie_lc ?_ ?_ ?_ ?_ (by decide)))
  | with_reducible apply is_seq | ((with_reducible refine is_asg ?_ (by decide))) | with_reducible apply is_ret | with_reducible apply is_exp | with_reducible apply is_if | with_reducible apply ie_F)
local macro_rules | `(tactic| walk_at "ind") => `(tactic| repeat walk_at "ind1")
local macro_rules | `(tactic| walk_at "xi") => `(tactic| with_reducible first | exact xi_NoName_Came (by assumption) | exact xi_NoName_Claimed (by assumption) | exact xi_NoName_Due (by assumption) | exact xi_NoName_Early (by assumption) | exact xi_NoName_IsOn (by assumption) | exact xi_NoName_LookupError (by assumption) | exact xi_NoName_NoBounds (by assumption) | exact xi_NoName_NoClaim (by assumption) | exact xi_NoName_NoHand (by assumption) | exact xi_NoName_NoHands (by assumption) | exact xi_NoName_NoLess (by assumption) | exact xi_NoName_NoLetter (by assumption) | exact xi_NoName_NoMark (by assumption) | exact xi_NoName_NoName (by assumption) | exact xi_NoName_NoNext (by assumption) | exact xi_NoName_NoPaper (by assumption) | exact xi_NoName_NoRule (by assumption) | exact xi_NoName_NoSaying (by assumption) | exact xi_NoName_NoScript (by assumption) | exact xi_NoName_NoTries (by assumption) | exact xi_NoName_NoWire (by assumption) | exact xi_NoName_NotEmpty (by assumption) | exact xi_NoName_NotOn (by assumption) | exact xi_NoName_Owed (by assumption) | exact xi_NoName_SameWire (by assumption) | exact xi_NoName_TooMany (by assumption) | exact xi_NoName_ValueError (by assumption) | exact xi_NoName_WireError (by assumption) | exact xi_NoNext_Came (by assumption) | exact xi_NoNext_Claimed (by assumption) | exact xi_NoNext_Due (by assumption) | exact xi_NoNext_Early (by assumption) | exact xi_NoNext_IsOn (by assumption) | exact xi_NoNext_LookupError (by assumption) | exact xi_NoNext_NoBounds (by assumption) | exact xi_NoNext_NoClaim (by assumption) | exact xi_NoNext_NoHand (by assumption) | exact xi_NoNext_NoHands (by assumption) | exact xi_NoNext_NoLess (by assumption) | exact xi_NoNext_NoLetter (by assumption) | exact xi_NoNext_NoMark (by assumption) | exact xi_NoNext_NoName (by assumption) | exact xi_NoNext_NoNext (by assumption) | exact xi_NoNext_NoPaper (by assumption) | exact xi_NoNext_NoRule (by assumption) | exact xi_NoNext_NoSaying (by assumption) | exact xi_NoNext_NoScript (by assumption) | exact xi_NoNext_NoTries (by assumption) | exact xi_NoNext_NoWire (by assumption) | exact xi_NoNext_NotEmpty (by assumption) | exact xi_NoNext_NotOn (by assumption) | exact xi_NoNext_Owed (by assumption) | exact xi_NoNext_SameWire (by assumption) | exact xi_NoNext_TooMany (by assumption) | exact xi_NoNext_ValueError (by assumption) | exact xi_NoNext_WireError (by assumption))
local macro_rules | `(tactic| walk_at "ind1") => `(tactic| exact ie_exn (fun h => which_ind h))
/-! ### star targets, index, int of a text -/
section
variable {A : Ad} {bs : List Blk} {b : Nat} {h : Hv} {Q : W → Hv → Prop} {X : XH} {e : Ev} {N B C : Ev → Hv → Prop} {T : W → Hv → Prop}
theorem xv_star {g : List W → MS} {z : Str} (c : 1 ≤ z.cps.size ∧ z.cps.size ≤ sizeLine) (a : wS (g ([.ref h.length] ++ (Z.signs z).drop (z.cps.size - 1)) e (h ++ [.lst ((Z.signs z).take (z.cps.size - 1))])) N T X B C) : wS (gStS g (.str z) e h) N T X B C := by
  unfold gStS
  show wS (if 1 ≤ z.cps.size ∧ z.cps.size ≤ sizeLine then g ([.ref h.length] ++ (Z.signs z).drop (z.cps.size - 1)) e (h ++ [.lst ((Z.signs z).take (z.cps.size - 1))]) else none) N T X B C
  rw [if_pos c]; exact a
theorem y_star {g : List W → MS} {z : Str} (c : 1 ≤ z.cps.size ∧ z.cps.size ≤ sizeLine) (a : sW (g ([.ref h.length] ++ (Z.signs z).drop (z.cps.size - 1)) e (h ++ [.lst ((Z.signs z).take (z.cps.size - 1))])) N T X B C) : sW (gStS g (.str z) e h) N T X B C := by with_unfolding_all exact xv_star c a
/-- a text of some letters and a last one -/
theorem y_starR {g : List W → MS} {z : Str} {cs : List Nat} {c : Nat} (ez : z.cps.toList = cs ++ [c]) (hz : z.length ≤ 1000) (H : Rp bs h) (a : ∀ r h', Rp ([(r, .lst (cs.map fun k => W.str ⟨#[k]⟩))] :: bs) h' → sW (g [.ref r, .str ⟨#[c]⟩] e h') N T X B C) : sW (gStS g (.str z) e h) N T X B C := by
  have hs : z.cps.size = cs.length + 1 := by
    rw [← Array.length_toList, ez]; simp
  have e1 : (Z.signs z).take (z.cps.size - 1) = cs.map fun k => W.str ⟨#[k]⟩ := by
    unfold Z.signs
    rw [ez, hs]; simp
  have e2 : (Z.signs z).drop (z.cps.size - 1) = [W.str ⟨#[c]⟩] := by
    unfold Z.signs
    rw [ez, hs]; simp
  refine y_star ⟨by omega, Nat.le_trans (show z.cps.size ≤ 1000 from hz) (by decide)⟩ ?_
  rw [e1, e2]
  exact a _ _ H.new
theorem wv_index {us : List W} {bt : List Str} {t : Str} {j : Nat} (e1 : us = bt.map W.str) (e2 : asSs us = some bt) (e3 : posS t bt = some j) (q : Q (.int (j : Int)) h) : wE (indexM (.cl us) [.str t] h) Q X := by
  show wE (indexS us t h) Q X
  unfold indexS
  rw [e2]
  show wE (match posS t bt with
    | some j => some (.ok (.int (j : Int)), h)
    | none => none) Q X
  rw [e3]
  exact q
theorem u_index {us : List W} {bt : List Str} {t : Str} {j : Nat} (e1 : us = bt.map W.str) (e2 : asSs us = some bt) (e3 : posS t bt = some j) (q : Q (.int (j : Int)) h) : eW (indexM (.cl us) [.str t] h) Q X := by with_unfolding_all exact wv_index e1 e2 e3 q
theorem wv_intS {z : Str} {n : Int} (e1 : PySem.intText? z = some n) (c : z.length ≤ 640) (q : Q (.int n) h) : wE (intSM [.str z] h) Q X := by
  show wE (intZ z h) Q X
  unfold intZ
  rw [e1]
  show wE (if z.length ≤ 640 then some (.ok (.int n), h) else none) Q X
  rw [if_pos c]; exact q
theorem u_intS {z : Str} {n : Int} (e1 : PySem.intText? z = some n) (c : z.length ≤ 640) (q : Q (.int n) h) : eW (intSM [.str z] h) Q X := by with_unfolding_all exact wv_intS e1 c q
/-! ### what K01's texts show, for the irreducible judgements -/
theorem isn_e {z : Str} (H : Rp bs h) (hz : z.length ≤ 1000) (q : ∀ h', Rp bs h' → Q (.bl (nb z)) h') : eW (F_is_name A [.str z] h) Q X := by
  have r : wE (F_is_name A [.str z] h) Q X := (isname_str hz).imp fun w h' ⟨e, g⟩ => e ▸ q h' (H.gr g)
  with_unfolding_all exact r
theorem isn_n {w : W} {t : String} (H : Rp bs h) (ht : tyW h w = some (.type t)) (hk : kitB t "str" = some false) (q : ∀ h', Rp bs h' → Q (.bl false) h') : eW (F_is_name A [w] h) Q X := by
  have r : wE (F_is_name A [w] h) Q X := (isname_non ht hk).imp fun w h' ⟨e, g⟩ => e ▸ q h' (H.gr g)
  with_unfolding_all exact r
theorem good_e {z : Str} (H : Rp bs h) (hz : z.length ≤ 1000) (q : ∀ h', Rp bs h' → Q (.bl (nb z)) h') : eW (F_law_good_name A [.str z] h) Q X := by
  have r : wE (F_law_good_name A [.str z] h) Q X := (good_str hz).imp fun w h' ⟨e, g⟩ => e ▸ q h' (H.gr g)
  with_unfolding_all exact r
theorem good_n {w : W} {t : String} (H : Rp bs h) (ht : tyW h w = some (.type t)) (hk : kitB t "str" = some false) (q : ∀ h', Rp bs h' → Q (.bl false) h') : eW (F_law_good_name A [w] h) Q X := by
  have r : wE (F_law_good_name A [w] h) Q X := (good_non ht hk).imp fun w h' ⟨e, g⟩ => e ▸ q h' (H.gr g)
  with_unfolding_all exact r
end
end K02
namespace K02
open PySem L2 Z
local macro_rules | `(tactic| walk_at "b") => `(tactic| first | rfl | (with_reducible assumption) | (simp only [Bool.not_eq_true', Bool.not_eq_false', decide_eq_true_eq, decide_eq_false_iff_not, Bool.not_eq_true, Bool.not_eq_false, Bool.and_eq_true, Bool.or_eq_true, Bool.and_eq_false_iff, Bool.or_eq_false_iff, Bool.not_true, Bool.not_false, decide_true, decide_false, List.all_cons, List.all_nil, List.any_cons, List.any_nil, id_eq, Bool.and_true, Bool.true_and, Bool.false_or, Bool.or_false, Bool.and_self, and_true, true_and, beq_self_eq_true] <;> omega))
local macro_rules | `(tactic| walk_at "k") => `(tactic| rfl)
local macro_rules | `(tactic| walk_at "p") => `(tactic| rfl)
local macro_rules | `(tactic| walk_at "m") => `(tactic| rfl)
local macro_rules | `(tactic| walk_at "i") => `(tactic| rfl)
local macro_rules | `(tactic| walk_at "y") => `(tactic| first | exact ct0 | exact cd0 | exact ct1 | exact cd1 | exact ct2 | exact cd2 | exact ct3 | exact cd3 | exact ct4 | exact cd4 | exact ct5 | exact cd5 | exact ct6 | exact cd6)
local macro_rules | `(tactic| walk_at "t") => `(tactic| ((repeat (with_reducible apply cat_cons)); exact List.nil_append _))
local macro_rules | `(tactic| walk_at "x") => `(tactic| with_reducible first | exact ix0 | exact ix1 | exact ix2 | exact ix3 | exact ix4 | exact ix5 | exact ix6 | exact ix7 | exact ix8 | exact ix9 | exact ix10 | exact ix11 | exact iy0 | exact iy1 | exact iy2 | exact iy3 | exact iy4 | exact iy5 | exact iy6 | exact iy7 | exact iy8 | exact iy9 | exact iy10 | exact iy11 | exact se0 | exact se1 | exact se2 | exact se3 | exact se4 | exact se5 | exact se6 | exact se7 | exact se8 | exact se9 | exact se10 | exact se11 | exact ap0 | exact ap1 | exact ap2 | exact ap3 | exact ap4 | exact ap5 | exact ap6 | exact ap7 | exact ap8 | exact ap9 | exact ap10 | exact ap11)
local macro_rules | `(tactic| walk_at "r") => `(tactic| first | (with_reducible assumption) | exact Rp.at (by with_reducible assumption) 0 (by rfl) | exact Rp.at (by with_reducible assumption) 1 (by rfl) | exact Rp.at (by with_reducible assumption) 2 (by rfl) | exact Rp.at (by with_reducible assumption) 3 (by rfl) | exact Rp.at (by with_reducible assumption) 4 (by rfl) | exact Rp.at (by with_reducible assumption) 5 (by rfl) | exact Rp.at (by with_reducible assumption) 6 (by rfl) | exact Rp.at (by with_reducible assumption) 7 (by rfl) | exact Rp.at (by with_reducible assumption) 8 (by rfl) | exact Rp.at (by with_reducible assumption) 9 (by rfl) | exact Rp.at (by with_reducible assumption) 10 (by rfl) | exact Rp.at (by with_reducible assumption) 11 (by rfl) | exact Rp.at (by with_reducible assumption) 12 (by rfl))
local macro_rules | `(tactic| walk_at "c") => `(tactic| first
  | ((with_reducible apply tt_of); omega)
  | ((with_reducible apply ff_of); omega)
  | ((with_reducible apply tt_of'); omega)
  | ((with_reducible apply ff_of'); omega)
  | ((with_reducible apply tt_b); walk_at "b")
  | ((with_reducible apply ff_b); walk_at "b")
  | ((with_reducible apply tt_b'); walk_at "b")
  | ((with_reducible apply ff_b'); walk_at "b"))
local macro_rules | `(tactic| walk_at "s") => `(tactic| first
  | with_reducible refine y_seq ?_
  | with_reducible refine y_asg ?_
  | with_reducible refine y_if ?_
  | with_reducible refine y_exp ?_
  | with_reducible refine y_ret ?_
  | with_reducible refine y_nm ?_
  | with_reducible refine y_nx ?_
  | with_reducible refine y_rt ?_
  | with_reducible refine y_bk ?_
  | with_reducible refine y_ct ?_
  | with_reducible refine y_tp rfl ?_
  | with_reducible refine y_gcons ?_
  | with_reducible refine y_gnil ?_
  | with_reducible refine y_nxo ?_
  | with_reducible refine y_subM ?_
  | with_reducible refine u_par ?_
  | with_reducible refine u_b2 ?_
  | with_reducible refine u_u1 ?_
  | with_reducible refine u_c ?_
  | with_reducible refine u_nil ?_
  | with_reducible refine u_cons ?_
  | with_reducible refine u_G ?_
  | with_reducible refine u_F ?_
  | with_reducible refine u_Kw ?_
  | with_reducible refine u_tup ?_
  | with_reducible refine u_test ?_
  | with_reducible refine u_notT ?_
  | with_reducible refine u_notV ?_
  | with_reducible refine u_if ?_
  | with_reducible refine u_chainLL ?_
  | with_reducible refine u_chain ?_
  | with_reducible refine u_add ?_
  | with_reducible refine u_sub ?_
  | with_reducible refine u_lt ?_
  | with_reducible refine u_le ?_
  | with_reducible refine u_gt ?_
  | with_reducible refine u_ge ?_
  | with_reducible refine u_neg ?_
  | with_reducible refine u_abs ?_
  | with_reducible refine u_max2 ?_
  | with_reducible refine u_min2 ?_
  | with_reducible refine u_eqI ?_
  | with_reducible refine u_neI ?_
  | with_reducible refine u_eqB ?_
  | with_reducible refine u_neB ?_
  | with_reducible refine u_eqS ?_
  | with_reducible refine u_neS ?_
  | with_reducible refine u_sl ?_
  | with_reducible refine u_no ?_
  | with_reducible refine u_part ?_
  | with_reducible refine u_it ?_
  | with_reducible refine u_srcS ?_
  | with_reducible refine u_srcT ?_
  | with_reducible refine u_rg1 ?_
  | with_reducible refine u_join ?_
  | with_reducible refine u_rev ?_
  | with_reducible refine u_keys ?_
  | with_reducible refine u_zip ?_
  | with_reducible refine u_fld ?_
  | with_reducible refine y_fldR ?_
  | with_reducible refine u_makeR ?_
  | with_reducible refine u_lstR ?_
  | with_reducible refine u_dspR ?_
  | with_reducible refine u_prsN ?_
  | with_reducible refine u_prsC ?_
  | with_reducible refine u_lcR ?_
  | with_reducible refine u_mbL ?_
  | with_reducible refine u_B ?_
  | with_reducible refine u_int_b ?_
  | with_reducible refine u_int_i ?_
  | with_reducible refine u_slT ?_
  | ((with_reducible apply u_var); rfl)
  | ((with_reducible apply u_isi); (first | rfl | exact tyW_ins (by walk_at "r") | exact tyW_lst (by walk_at "r") | exact tyW_dk (by walk_at "r")); rfl; walk_at "i")
  | ((with_reducible apply u_ixA); exact seqLT_of (by walk_at "r"); walk_at "x")
  | ((with_reducible apply u_ixAT); walk_at "x")
  | ((with_reducible apply u_srcL); walk_at "r")
  | ((with_reducible apply u_slS); (with_reducible assumption))
  | ((with_reducible apply u_lenS); (with_reducible assumption))
  | ((with_reducible apply u_len); (first | rfl | exact seqLT_of (by walk_at "r")))
  | ((with_reducible apply u_mod); (first | (with_reducible assumption) | omega))
  | ((with_reducible apply u_fdiv'); omega; omega)
  | ((with_reducible apply u_mulP); omega; omega)
  | ((with_reducible apply u_mulQ); omega; omega)
  | ((with_reducible apply u_powP); omega; omega; omega; omega)
  | ((with_reducible apply u_dget); walk_at "r"; rfl; walk_at "k")
  | ((with_reducible apply u_kd); walk_at "k")
  | ((with_reducible apply u_allL); walk_at "r"; rfl)
  | ((with_reducible apply u_anyL); walk_at "r"; rfl)
  | ((with_reducible apply u_catLR); walk_at "r"; walk_at "r"; rfl; walk_at "t"; (with_reducible assumption); intro _ _ _)
  | ((with_reducible apply u_slLR); walk_at "r"; walk_at "y"; (with_reducible assumption); intro _ _ _)
  | ((with_reducible apply u_listLR); (first | rfl | exact seqLT_of (by walk_at "r")); (with_reducible assumption); intro _ _ _)
  | ((with_reducible apply setR_ok (i := 0)); (with_reducible assumption); rfl; walk_at "x"; walk_at "x"; exact se0; intro _ _)
  | ((with_reducible apply setR_ok (i := 1)); (with_reducible assumption); rfl; walk_at "x"; walk_at "x"; exact se1; intro _ _)
  | ((with_reducible apply setR_ok (i := 2)); (with_reducible assumption); rfl; walk_at "x"; walk_at "x"; exact se2; intro _ _)
  | ((with_reducible apply setR_ok (i := 3)); (with_reducible assumption); rfl; walk_at "x"; walk_at "x"; exact se3; intro _ _)
  | ((with_reducible apply setR_ok (i := 4)); (with_reducible assumption); rfl; walk_at "x"; walk_at "x"; exact se4; intro _ _)
  | ((with_reducible apply setR_ok (i := 5)); (with_reducible assumption); rfl; walk_at "x"; walk_at "x"; exact se5; intro _ _)
  | ((with_reducible apply u_appendR (i := 0)); (with_reducible assumption); rfl; rfl; walk_at "x"; exact se0; intro _ _)
  | ((with_reducible apply u_appendR (i := 1)); (with_reducible assumption); rfl; rfl; walk_at "x"; exact se1; intro _ _)
  | ((with_reducible apply u_appendR (i := 2)); (with_reducible assumption); rfl; rfl; walk_at "x"; exact se2; intro _ _)
  | ((with_reducible apply u_appendR (i := 3)); (with_reducible assumption); rfl; rfl; walk_at "x"; exact se3; intro _ _)
  | ((with_reducible apply u_appendR (i := 4)); (with_reducible assumption); rfl; rfl; walk_at "x"; exact se4; intro _ _)
  | ((with_reducible apply u_appendR (i := 5)); (with_reducible assumption); rfl; rfl; walk_at "x"; exact se5; intro _ _)
  | with_reducible refine ⟨_, _, _, rfl, rfl, rfl, rfl, ?_⟩
  | with_reducible refine ⟨_, rfl, ?_⟩
  | ((with_reducible apply lst_go); rfl; (with_reducible assumption); intro _ _ _)
  | ((with_reducible apply make_go'); rfl; rfl; (with_reducible assumption); intro _ _ _)
  | ((with_reducible apply kwd_go); rfl; rfl)
  | ((with_reducible apply len_go); rfl)
  | ((with_reducible apply tup_go); rfl)
  | ((with_reducible apply fld_go); walk_at "r"; (first | exact List.mem_singleton_self _ | simp); walk_at "k")
  | ((with_reducible apply mb_go); walk_at "r")
  | ((with_reducible apply zip_go); walk_at "r"; walk_at "r")
  | ((with_reducible apply dsp_go); (with_reducible assumption); rfl; walk_at "m"; intro _ _)
  | ((with_reducible apply key_go); rfl)
  | ((with_reducible apply lcc_go (i := 0)); (with_reducible assumption); rfl; rfl; walk_at "x"; exact se0; intro _ _)
  | ((with_reducible apply lcc_go (i := 1)); (with_reducible assumption); rfl; rfl; walk_at "x"; exact se1; intro _ _)
  | ((with_reducible apply lcc_go (i := 2)); (with_reducible assumption); rfl; rfl; walk_at "x"; exact se2; intro _ _)
  | ((with_reducible apply lcc_go (i := 3)); (with_reducible assumption); rfl; rfl; walk_at "x"; exact se3; intro _ _)
  | ((with_reducible apply lcc_go (i := 4)); (with_reducible assumption); rfl; rfl; walk_at "x"; exact se4; intro _ _)
  | ((with_reducible apply lcc_go (i := 5)); (with_reducible assumption); rfl; rfl; walk_at "x"; exact se5; intro _ _)
  | ((with_reducible apply xfld_go (i := 0)); (with_reducible assumption); rfl; (first | exact List.mem_singleton_self _ | simp); rfl; walk_at "p"; exact se0; intro _ _)
  | ((with_reducible apply xfld_go (i := 1)); (with_reducible assumption); rfl; (first | exact List.mem_singleton_self _ | simp); rfl; walk_at "p"; exact se1; intro _ _)
  | ((with_reducible apply xfld_go (i := 2)); (with_reducible assumption); rfl; (first | exact List.mem_singleton_self _ | simp); rfl; walk_at "p"; exact se2; intro _ _)
  | ((with_reducible apply xfld_go (i := 3)); (with_reducible assumption); rfl; (first | exact List.mem_singleton_self _ | simp); rfl; walk_at "p"; exact se3; intro _ _)
  | ((with_reducible apply xfld_go (i := 4)); (with_reducible assumption); rfl; (first | exact List.mem_singleton_self _ | simp); rfl; walk_at "p"; exact se4; intro _ _)
  | ((with_reducible apply xfld_go (i := 5)); (with_reducible assumption); rfl; (first | exact List.mem_singleton_self _ | simp); rfl; walk_at "p"; exact se5; intro _ _)
  | ((with_reducible apply new_go); (with_reducible assumption); intro _ _ _))
local macro_rules | `(tactic| walk_at "l") => `(tactic| first
  | refine u_lcC trivial rfl ?_ | refine u_lcN trivial ?_ | refine u_lcC (seqL_of (by walk_at "r")) rfl ?_ | refine u_lcN (seqL_of (by walk_at "r")) ?_
  | refine u_lcC ⟨seqL_of (by walk_at "r"), seqL_of (by walk_at "r")⟩ rfl ?_ | refine u_lcN ⟨seqL_of (by walk_at "r"), seqL_of (by walk_at "r")⟩ ?_
  | refine y_lpC trivial ?_ | refine y_lpN trivial ?_ | refine y_lpC (seqL_of (by walk_at "r")) ?_ | refine y_lpN (seqL_of (by walk_at "r")) ?_)
local macro_rules | `(tactic| walk_at "a") => `(tactic| with_reducible first | refine u_andT ?_ | refine u_orT ?_ | refine u_andV ?_ | refine u_orV ?_)
local macro_rules | `(tactic| walk_at "P") => `(tactic| first
  | (with_reducible refine u_andTP ?_) | (with_reducible refine u_orTP ?_) | (with_reducible refine u_andVP ?_) | (with_reducible refine u_orVP ?_)
  | ((with_reducible apply i_andp_go); (intro _; walk_at "gp"; exact ⟨rfl, rfl⟩)) | ((with_reducible apply i_orp_go); (intro _; walk_at "gp"; exact ⟨rfl, rfl⟩)) | ((with_reducible apply i_andtp_go); (intro _; walk_at "gp"; exact ⟨rfl, rfl⟩)) | ((with_reducible apply i_ortp_go); (intro _; walk_at "gp"; exact ⟨rfl, rfl⟩)))
local macro_rules | `(tactic| walk_at "gp") => `(tactic| repeat first | walk_at "s" | walk_at "P" | walk_at "c" | walk_at "d" | walk_at "l")
local macro_rules | `(tactic| walk_at "g") => `(tactic| repeat first | walk_at "s" | walk_at "a" | walk_at "c" | walk_at "d" | walk_at "l")
local macro_rules | `(tactic| walk_at "d") => `(tactic| first | ((with_reducible apply take_R (i := 0)); (with_reducible assumption); rfl; (with_reducible assumption); (first | omega | (rfl)); (first | omega | rfl); (exact fun _ _ => se0); intro _ _ _ _ _ _ _ _) | ((with_reducible apply take_R (i := 1)); (with_reducible assumption); rfl; (with_reducible assumption); (first | omega | (rfl)); (first | omega | rfl); (exact fun _ _ => se1); intro _ _ _ _ _ _ _ _) | ((with_reducible apply take_R (i := 2)); (with_reducible assumption); rfl; (with_reducible assumption); (first | omega | (rfl)); (first | omega | rfl); (exact fun _ _ => se2); intro _ _ _ _ _ _ _ _) | ((with_reducible apply take_R (i := 3)); (with_reducible assumption); rfl; (with_reducible assumption); (first | omega | (rfl)); (first | omega | rfl); (exact fun _ _ => se3); intro _ _ _ _ _ _ _ _) | ((with_reducible apply take_R (i := 4)); (with_reducible assumption); rfl; (with_reducible assumption); (first | omega | (rfl)); (first | omega | rfl); (exact fun _ _ => se4); intro _ _ _ _ _ _ _ _) | ((with_reducible apply take_R (i := 5)); (with_reducible assumption); rfl; (with_reducible assumption); (first | omega | (rfl)); (first | omega | rfl); (exact fun _ _ => se5); intro _ _ _ _ _ _ _ _) | ((with_reducible apply take_R (i := 6)); (with_reducible assumption); rfl; (with_reducible assumption); (first | omega | (rfl)); (first | omega | rfl); (exact fun _ _ => se6); intro _ _ _ _ _ _ _ _) | ((with_reducible apply take_R (i := 7)); (with_reducible assumption); rfl; (with_reducible assumption); (first | omega | (rfl)); (first | omega | rfl); (exact fun _ _ => se7); intro _ _ _ _ _ _ _ _) | ((with_reducible apply take_R (i := 8)); (with_reducible assumption); rfl; (with_reducible assumption); (first | omega | (rfl)); (first | omega | rfl); (exact fun _ _ => se8); intro _ _ _ _ _ _ _ _) | ((with_reducible apply take_R (i := 9)); (with_reducible assumption); rfl; (with_reducible assumption); (first | omega | (rfl)); (first | omega | rfl); (exact fun _ _ => se9); intro _ _ _ _ _ _ _ _))
local macro_rules | `(tactic| walk_at "ind1") => `(tactic| first
  | with_reducible exact ie_is | with_reducible exact ie_c | with_reducible exact ie_nil | with_reducible exact ie_mB | with_reducible exact is_nx | with_reducible exact ig_nil | with_reducible exact is_rt
  | ((with_reducible apply ie_var); decide) | with_reducible apply ie_cons | with_reducible apply ie_tup | with_reducible apply ie_lst | with_reducible apply ie_G | with_reducible apply ie_b2
  | with_reducible apply ie_test | with_reducible apply ie_notT | with_reducible apply ie_notV | with_reducible apply ie_andT | with_reducible apply ie_orT | with_reducible apply ie_andV | with_reducible apply ie_orV
  | with_reducible apply ie_if | with_reducible apply ie_itL | ((with_reducible apply ig_nm); decide) | with_reducible apply ig_cons | with_reducible apply ig_tp | ((with_reducible refine ie_lc ?_ ?_ ?_ ?_ (by decide)))
  | with_reducible apply is_seq | ((with_reducible refine is_asg ?_ (by decide))) | with_reducible apply is_ret | with_reducible apply is_exp | with_reducible apply is_if | with_reducible apply ie_F)
local macro_rules | `(tactic| walk_at "ind") => `(tactic| repeat walk_at "ind1")
local macro_rules | `(tactic| walk_at "xi") => `(tactic| with_reducible first | exact xi_NoName_Came (by assumption) | exact xi_NoName_Claimed (by assumption) | exact xi_NoName_Due (by assumption) | exact xi_NoName_Early (by assumption) | exact xi_NoName_IsOn (by assumption) | exact xi_NoName_LookupError (by assumption) | exact xi_NoName_NoBounds (by assumption) | exact xi_NoName_NoClaim (by assumption) | exact xi_NoName_NoHand (by assumption) | exact xi_NoName_NoHands (by assumption) | exact xi_NoName_NoLess (by assumption) | exact xi_NoName_NoLetter (by assumption) | exact xi_NoName_NoMark (by assumption) | exact xi_NoName_NoName (by assumption) | exact xi_NoName_NoNext (by assumption) | exact xi_NoName_NoPaper (by assumption) | exact xi_NoName_NoRule (by assumption) | exact xi_NoName_NoSaying (by assumption) | exact xi_NoName_NoScript (by assumption) | exact xi_NoName_NoTries (by assumption) | exact xi_NoName_NoWire (by assumption) | exact xi_NoName_NotEmpty (by assumption) | exact xi_NoName_NotOn (by assumption) | exact xi_NoName_Owed (by assumption) | exact xi_NoName_SameWire (by assumption) | exact xi_NoName_TooMany (by assumption) | exact xi_NoName_ValueError (by assumption) | exact xi_NoName_WireError (by assumption) | exact xi_NoNext_Came (by assumption) | exact xi_NoNext_Claimed (by assumption) | exact xi_NoNext_Due (by assumption) | exact xi_NoNext_Early (by assumption) | exact xi_NoNext_IsOn (by assumption) | exact xi_NoNext_LookupError (by assumption) | exact xi_NoNext_NoBounds (by assumption) | exact xi_NoNext_NoClaim (by assumption) | exact xi_NoNext_NoHand (by assumption) | exact xi_NoNext_NoHands (by assumption) | exact xi_NoNext_NoLess (by assumption) | exact xi_NoNext_NoLetter (by assumption) | exact xi_NoNext_NoMark (by assumption) | exact xi_NoNext_NoName (by assumption) | exact xi_NoNext_NoNext (by assumption) | exact xi_NoNext_NoPaper (by assumption) | exact xi_NoNext_NoRule (by assumption) | exact xi_NoNext_NoSaying (by assumption) | exact xi_NoNext_NoScript (by assumption) | exact xi_NoNext_NoTries (by assumption) | exact xi_NoNext_NoWire (by assumption) | exact xi_NoNext_NotEmpty (by assumption) | exact xi_NoNext_NotOn (by assumption) | exact xi_NoNext_Owed (by assumption) | exact xi_NoNext_SameWire (by assumption) | exact xi_NoNext_TooMany (by assumption) | exact xi_NoNext_ValueError (by assumption) | exact xi_NoNext_WireError (by assumption))
local macro_rules | `(tactic| walk_at "ind1") => `(tactic| exact ie_exn (fun h => which_ind h))
/-! ### the next name -/
section
variable {A : Ad} {bs : List Blk} {b : Nat} {z : Str} {h : Hv} {Q : W → Hv → Prop} {X : XH}
theorem nb_inv (e : nb z = true) : ∃ cs c, z.cps.toList = cs ++ [c] ∧ (∀ x ∈ cs, x ∈ lts.cps.toList) ∧ ((c ∈ lts.cps.toList ∧ cs.length + 1 ≤ 8) ∨ (c ∈ fgs.cps.toList ∧ 1 ≤ cs.length ∧ cs.length ≤ 8)) := by
  have lz : z.length = z.cps.toList.length := by simp [Str.length]
  rcases List.eq_nil_or_concat z.cps.toList with hn | ⟨cs, c, hcc⟩
  · exfalso
    have l0 : (core z).length ≤ 0 := core_le (by rw [lz, hn]; exact Nat.le_refl 0)
    unfold nb at e
    simp only [Bool.and_eq_true, decide_eq_true_eq] at e
    omega
  · have hcc : z.cps.toList = cs ++ [c] := by simpa using hcc
    obtain ⟨e1, e2⟩ := cut_last hcc
    have e3 : inV (V.str (cutS z (some (-1)) none)) figs = decide (c ∈ fgs.cps.toList) := by
      rw [e1, figs_eq]; exact inV_sign
    have el : z.length = cs.length + 1 := by rw [lz, hcc]; simp
    by_cases hf : c ∈ fgs.cps.toList
    · have ec : core z = ⟨cs.toArray⟩ := by
        unfold core
        rw [e3, if_pos (decide_eq_true hf), e2]
      unfold nb at e
      rw [ec] at e
      have el2 : (⟨cs.toArray⟩ : Str).length = cs.length := by simp [Str.length]
      rw [el2] at e
      simp only [Bool.and_eq_true, decide_eq_true_eq, List.all_eq_true, List.mem_map] at e
      refine ⟨cs, c, hcc, fun x hx => ?_, .inr ⟨hf, by omega, by omega⟩⟩
      have := e.2 (decide (x ∈ lts.cps.toList)) ⟨x, by simpa using hx, rfl⟩
      exact of_decide_eq_true this
    · have ec : core z = z := by
        unfold core
        rw [e3, if_neg (by simp [hf])]
      unfold nb at e
      rw [ec, hcc, el] at e
      simp only [Bool.and_eq_true, decide_eq_true_eq, List.all_eq_true, List.mem_map] at e
      have al : ∀ x ∈ cs ++ [c], x ∈ lts.cps.toList := fun x hx => of_decide_eq_true (e.2 (decide (x ∈ lts.cps.toList)) ⟨x, hx, rfl⟩)
      exact ⟨cs, c, hcc, fun x hx => al x (by simp [hx]), .inl ⟨al c (by simp), by omega⟩⟩
theorem lookn_t (H : Rp bs h) (hz : z.length ≤ 1000) (e : nb z = true) (q : ∀ h', Rp bs h' → Q .non h') : eW (F_look_name A [.str z] h) Q X := by
  unfold F_look_name
  refine u_runB ?_
  show sW (m_look_name A [some (.str z)] h) _ _ _ _ _
  unfold m_look_name
  repeat walk_at "s"
  refine isn_e H hz fun h' H' => ?_
  rw [e]
  walk_at "g"
  exact q _ H'
theorem lookn_f (H : Rp bs h) (hz : z.length ≤ 1000) (e : nb z = false) (q : ∀ h', Rp bs h' → X ⟨.ref A.a_NoName, none⟩ h') : eW (F_look_name A [.str z] h) Q X := by
  unfold F_look_name
  refine u_runB ?_
  show sW (m_look_name A [some (.str z)] h) _ _ _ _ _
  unfold m_look_name
  repeat walk_at "s"
  refine isn_e H hz fun h' H' => ?_
  rw [e]
  walk_at "g"
  exact y_raise (q _ H')
theorem lookn_n {w : W} {t : String} (H : Rp bs h) (ht : tyW h w = some (.type t)) (hk : kitB t "str" = some false) (q : ∀ h', Rp bs h' → X ⟨.ref A.a_NoName, none⟩ h') : eW (F_look_name A [w] h) Q X := by
  unfold F_look_name
  refine u_runB ?_
  show sW (m_look_name A [some w] h) _ _ _ _ _
  unfold m_look_name
  repeat walk_at "s"
  refine isn_n H ht hk fun h' H' => ?_
  walk_at "g"
  exact y_raise (q _ H')
theorem next_x {w : W} (l : eW (F_look_name A [w] h) (fun _ _ => False) X) : eW (F_next_name A [w] h) Q X := by
  unfold F_next_name
  refine u_runB ?_
  show sW (m_next_name A [some w, none, none] h) _ _ _ _ _
  unfold m_next_name
  repeat walk_at "s"
  exact eW_both l (fun _ _ f => f.elim) fun _ _ q => q
theorem str_ext {a b : Str} (h : a.cps.toList = b.cps.toList) : a = b := by
  cases a; cases b
  simp at h
  rw [h]
theorem join_cat {cs : List Nat} {d : Nat} : Txt.join "" (cs.map one) ++ ⟨#[d]⟩ = ⟨(cs ++ [d]).toArray⟩ := by
  apply str_ext
  rw [Str.cps_append, Array.toList_append, join_ones]
theorem ones_sum (cs : List Nat) : ((cs.map one).map (·.length)).sum = cs.length := by
  induction cs with
  | nil => rfl
  | cons a t ih =>
    simp only [List.map_cons, List.sum_cons, ih, List.length_cons]
    show 1 + t.length = t.length + 1
    omega
theorem inFig {c : Nat} (q : Q (.bl (decide (c ∈ fgs.cps.toList))) h) : eW (inM (.str ⟨#[c]⟩) (.cl w_FIGURES) h) Q X := by
  refine u_inF (ws := w_FIGURES) rfl rfl rfl ?_
  have e : inV (fV (.str ⟨#[c]⟩)) (w_FIGURES.map fV) = decide (c ∈ fgs.cps.toList) := by
    have := inV_sign (c := c) (z := fgs)
    rw [← figs_eq] at this
    exact this
  rw [e]; exact q
theorem fg_cases {c : Nat} (hf : c ∈ fgs.cps.toList) (h9 : c ≠ 57) : c = 50 ∨ c = 51 ∨ c = 52 ∨ c = 53 ∨ c = 54 ∨ c = 55 ∨ c = 56 := by
  have e : fgs.cps.toList = [50, 51, 52, 53, 54, 55, 56, 57] := by decide +kernel
  rw [e] at hf
  simp at hf
  omega
theorem ne9 {c : Nat} (h9 : c ≠ 57) : decide ((⟨#[c]⟩ : Str) = "9") = false := by
  refine decide_eq_false fun e => h9 ?_
  have e2 : ("9" : Str).cps.toList = [57] := by decide +kernel
  have := congrArg (fun s : Str => s.cps.toList) e
  simp only [e2] at this
  simpa using this
theorem u_mbC {g : W → List W → M W} {us : List W} {me : ME (List W)} {e : Ev} (a : eW (me e h) (fun ws h2 => eW (g (.cl us) ws h2) Q X) X) : eW (mMb .lst g (mC (.cl us)) me e h) Q X := u_mb (u_c ⟨rfl, a⟩)
local macro_rules | `(tactic| walk_at "s") => `(tactic| with_reducible refine u_mbC ?_)
def FG : List Str := ["2", "3", "4", "5", "6", "7", "8", "9"]
theorem idx_c {c j : Nat} (e3 : posS ⟨#[c]⟩ FG = some j) (q : Q (.int (j : Int)) h) : eW (indexM (.cl w_FIGURES) [.str ⟨#[c]⟩] h) Q X := u_index (bt := FG) rfl rfl e3 q
theorem figs_fin {cs : List Nat} {j : Int} {d : Nat} {s : Str} (e : atI w_FIGURES j = some (.str s)) (es : s = ⟨#[d]⟩) (jl : (Txt.join "" (cs.map one)).length ≤ 1000) (q : Q (.str ⟨(cs ++ [d]).toArray⟩) h) : eW (ixA (.cl w_FIGURES) (.int j) h) (fun y h2 => eW (addM (.str (Txt.join "" (cs.map one))) y h2) Q X) X := by
  refine u_ixAC e ?_
  subst es
  refine u_catK (by show (Txt.join "" (cs.map one)).length + 1 ≤ 100000; omega) ?_
  rw [join_cat]
  exact q
theorem next_R {cs : List Nat} {c : Nat} (H : Rp bs h) (hz : z.length ≤ 1000) (e : nb z = true) (ez : z.cps.toList = cs ++ [c])
    (q9 : c = 57 → ∀ h', Rp bs h' → X ⟨.ref A.a_NoNext, none⟩ h') (qf : 50 ≤ c ∧ c ≤ 56 → ∀ h', Rp bs h' → Q (.str ⟨(cs ++ [c + 1]).toArray⟩) h') (ql : c ∉ fgs.cps.toList → ∀ h', Rp bs h' → Q (.str (z ++ "2")) h') : eW (F_next_name A [.str z] h) Q X := by
  unfold F_next_name
  refine u_runB ?_
  show sW (m_next_name A [some (.str z), none, none] h) _ _ _ _ _
  unfold m_next_name
  repeat walk_at "s"
  refine lookn_t H hz e fun h1 H1 => ?_
  repeat walk_at "s"
  refine y_starR ez hz H1 fun r h2 H2 => ?_
  repeat walk_at "s"
  by_cases h9 : c = 57
  · subst h9
    refine tt_b (by decide +kernel) (y_raise (q9 rfl _ H2.tl))
  refine ff_b (ne9 h9) ?_
  walk_at "g"
  refine inFig ?_
  repeat walk_at "s"
  by_cases hf : c ∈ fgs.cps.toList
  · refine tt_b (decide_eq_true hf) ?_
    have hl : cs.length ≤ 1000 := by
      have e1 : z.length = z.cps.toList.length := by simp [Str.length]
      rw [e1, ez] at hz
      simp at hz
      omega
    repeat walk_at "s"
    refine ⟨r, cs.map one, rfl, by rw [List.map_map]; exact H2.at 0 rfl, by rw [ones_sum, List.length_map, (by decide : (Str.ofString "").length = 0)]; omega, ?_⟩
    have jl : (Txt.join "" (cs.map one)).length ≤ 1000 := by
      have e1 : (Txt.join "" (cs.map one)).length = (Txt.join "" (cs.map one)).cps.toList.length := by simp [Str.length]
      rw [e1, join_ones]; exact hl
    rcases fg_cases hf h9 with rfl | rfl | rfl | rfl | rfl | rfl | rfl
    · repeat walk_at "s"
      refine idx_c (j := 0) (by decide +kernel) ?_
      repeat walk_at "s"
      exact figs_fin (s := "3") (by with_unfolding_all rfl) (by decide +kernel) jl (qf (by omega) _ H2.tl)
    · repeat walk_at "s"
      refine idx_c (j := 1) (by decide +kernel) ?_
      repeat walk_at "s"
      exact figs_fin (s := "4") (by with_unfolding_all rfl) (by decide +kernel) jl (qf (by omega) _ H2.tl)
    · repeat walk_at "s"
      refine idx_c (j := 2) (by decide +kernel) ?_
      repeat walk_at "s"
      exact figs_fin (s := "5") (by with_unfolding_all rfl) (by decide +kernel) jl (qf (by omega) _ H2.tl)
    · repeat walk_at "s"
      refine idx_c (j := 3) (by decide +kernel) ?_
      repeat walk_at "s"
      exact figs_fin (s := "6") (by with_unfolding_all rfl) (by decide +kernel) jl (qf (by omega) _ H2.tl)
    · repeat walk_at "s"
      refine idx_c (j := 4) (by decide +kernel) ?_
      repeat walk_at "s"
      exact figs_fin (s := "7") (by with_unfolding_all rfl) (by decide +kernel) jl (qf (by omega) _ H2.tl)
    · repeat walk_at "s"
      refine idx_c (j := 5) (by decide +kernel) ?_
      repeat walk_at "s"
      exact figs_fin (s := "8") (by with_unfolding_all rfl) (by decide +kernel) jl (qf (by omega) _ H2.tl)
    · repeat walk_at "s"
      refine idx_c (j := 6) (by decide +kernel) ?_
      repeat walk_at "s"
      exact figs_fin (s := "9") (by with_unfolding_all rfl) (by decide +kernel) jl (qf (by omega) _ H2.tl)
  · refine ff_b (decide_eq_false hf) ?_
    repeat walk_at "s"
    refine u_ixAC (w := .str "2") (by with_unfolding_all rfl) ?_
    refine u_catK (by have : ("2" : Str).length = 1 := by decide
                      omega) ?_
    exact ql hf _ H2.tl
/-! ### what is told, what is due -/
/-- the answer for a text -/
inductive Nx (z : Str) : W → Prop where
  | bad : nb z = false → Nx z (.tup [.str "NoName"])
  | nine {cs : List Nat} : nb z = true → z.cps.toList = cs ++ [57] → Nx z (.tup [.str "NoNext"])
  | fig {cs : List Nat} {c : Nat} : nb z = true → z.cps.toList = cs ++ [c] → 50 ≤ c ∧ c ≤ 56 → Nx z (.str ⟨(cs ++ [c + 1]).toArray⟩)
  | letter {cs : List Nat} {c : Nat} : nb z = true → z.cps.toList = cs ++ [c] → c ∉ fgs.cps.toList → Nx z (.str (z ++ "2"))
theorem fg_in {c : Nat} (h : 50 ≤ c ∧ c ≤ 57) : c ∈ fgs.cps.toList := by
  have e : fgs.cps.toList = [50, 51, 52, 53, 54, 55, 56, 57] := by decide +kernel
  rw [e]; simp; omega
theorem cc_eq {cs ds : List Nat} {c d : Nat} (h : cs ++ [c] = ds ++ [d]) : cs = ds ∧ c = d := by
  have := List.append_inj' h rfl
  exact ⟨this.1, by simpa using this.2⟩
theorem Nx.one {v w : W} (a : Nx z v) (b : Nx z w) : v = w := by
  cases a with
  | bad e => cases b with
    | bad _ => rfl
    | nine e' _ => rw [e] at e'; cases e'
    | fig e' _ _ => rw [e] at e'; cases e'
    | letter e' _ _ => rw [e] at e'; cases e'
  | nine e1 e2 => cases b with
    | bad e' => rw [e1] at e'; cases e'
    | nine _ _ => rfl
    | fig _ e' r => rw [e2] at e'; have := (cc_eq e').2; omega
    | letter _ e' r => rw [e2] at e'; exact absurd (fg_in (by have := (cc_eq e').2; omega)) r
  | fig e1 e2 r1 => cases b with
    | bad e' => rw [e1] at e'; cases e'
    | nine _ e' => rw [e2] at e'; have := (cc_eq e').2; omega
    | fig _ e' r => rw [e2] at e'; obtain ⟨rfl, rfl⟩ := cc_eq e'; rfl
    | letter _ e' r => rw [e2] at e'; exact absurd (fg_in (by have := (cc_eq e').2; omega)) r
  | letter e1 e2 r1 => cases b with
    | bad e' => rw [e1] at e'; cases e'
    | nine _ e' => rw [e2] at e'; exact absurd (fg_in (by have := (cc_eq e').2; omega)) r1
    | fig _ e' r => rw [e2] at e'; exact absurd (fg_in (by have := (cc_eq e').2; omega)) r1
    | letter _ _ _ => rfl
theorem next_s (H : Rp bs h) (hz : z.length ≤ 1000) (qx : ∀ w h', Nx z w → Rp bs h' → (w = .tup [.str "NoName"] → X ⟨.ref A.a_NoName, none⟩ h') ∧ (w = .tup [.str "NoNext"] → X ⟨.ref A.a_NoNext, none⟩ h')) (q : ∀ y h', Nx z (.str y) → Rp bs h' → Q (.str y) h') : eW (F_next_name A [.str z] h) Q X := by
  cases e : nb z with
  | false => exact next_x (lookn_f H hz e fun h' H' => (qx _ h' (.bad e) H').1 rfl)
  | true =>
    obtain ⟨cs, c, ez, _, _⟩ := nb_inv e
    refine next_R H hz e ez (fun e9 h' H' => ?_) (fun r h' H' => q _ _ (.fig e ez r) H') (fun r h' H' => q _ _ (.letter e ez r) H')
    subst e9
    exact (qx _ h' (.nine e ez) H').2 rfl
theorem F_next_ind : True := trivial
theorem lnext_s (hx : Cons (tabX A)) (H : Rp bs h) (hz : z.length ≤ 1000) (q : ∀ w h', Nx z w → Rp bs h' → Q w h') : eW (F_law_next A [.str z] h) Q X := by
  unfold F_law_next
  refine u_runB ?_
  show sW (m_law_next A [some (.str z), none, none] h) _ _ _ _ _
  unfold m_law_next
  repeat walk_at "s"
  refine y_tryA ?_
  repeat walk_at "s"
  refine next_s H hz (fun w h1 nx H1 => ⟨?_, ?_⟩) fun y h1 nx H1 => ?_
  · rintro rfl
    refine ⟨A.a_NoName, rfl, xe_NoName, fun a => is_ret (ie_tup (ie_cons (ie_exn (fun h => which_ind h)) ie_nil)), ?_⟩
    refine y_ret (u_tup (u_cons (u_F (u_cons (u_var rfl (u_nil ⟨rfl, which_NoName hx H1 fun h2 H2 => u_nil ⟨show 1 ≤ sizeLine by decide, q _ _ nx H2⟩⟩))))))
  · rintro rfl
    refine ⟨A.a_NoNext, rfl, xe_NoNext, fun a => is_ret (ie_tup (ie_cons (ie_exn (fun h => which_ind h)) ie_nil)), ?_⟩
    refine y_ret (u_tup (u_cons (u_F (u_cons (u_var rfl (u_nil ⟨rfl, which_NoNext hx H1 fun h2 H2 => u_nil ⟨show 1 ≤ sizeLine by decide, q _ _ nx H2⟩⟩))))))
  · walk_at "g"
    exact q _ _ nx H1
end
end K02
namespace K02
open PySem L2 Z
local macro_rules | `(tactic| walk_at "b") => `(tactic| first | rfl | (with_reducible assumption) | (simp only [Bool.not_eq_true', Bool.not_eq_false', decide_eq_true_eq, decide_eq_false_iff_not, Bool.not_eq_true, Bool.not_eq_false, Bool.and_eq_true, Bool.or_eq_true, Bool.and_eq_false_iff, Bool.or_eq_false_iff, Bool.not_true, Bool.not_false, decide_true, decide_false, List.all_cons, List.all_nil, List.any_cons, List.any_nil, id_eq, Bool.and_true, Bool.true_and, Bool.false_or, Bool.or_false, Bool.and_self, and_true, true_and, beq_self_eq_true] <;> omega))
local macro_rules | `(tactic| walk_at "k") => `(tactic| rfl)
local macro_rules | `(tactic| walk_at "p") => `(tactic| rfl)
local macro_rules | `(tactic| walk_at "m") => `(tactic| rfl)
local macro_rules | `(tactic| walk_at "i") => `(tactic| rfl)
local macro_rules | `(tactic| walk_at "y") => `(tactic| first | exact ct0 | exact cd0 | exact ct1 | exact cd1 | exact ct2 | exact cd2 | exact ct3 | exact cd3 | exact ct4 | exact cd4 | exact ct5 | exact cd5 | exact ct6 | exact cd6)
local macro_rules | `(tactic| walk_at "t") => `(tactic| ((repeat (with_reducible apply cat_cons)); exact List.nil_append _))
local macro_rules | `(tactic| walk_at "x") => `(tactic| with_reducible first | exact ix0 | exact ix1 | exact ix2 | exact ix3 | exact ix4 | exact ix5 | exact ix6 | exact ix7 | exact ix8 | exact ix9 | exact ix10 | exact ix11 | exact iy0 | exact iy1 | exact iy2 | exact iy3 | exact iy4 | exact iy5 | exact iy6 | exact iy7 | exact iy8 | exact iy9 | exact iy10 | exact iy11 | exact se0 | exact se1 | exact se2 | exact se3 | exact se4 | exact se5 | exact se6 | exact se7 | exact se8 | exact se9 | exact se10 | exact se11 | exact ap0 | exact ap1 | exact ap2 | exact ap3 | exact ap4 | exact ap5 | exact ap6 | exact ap7 | exact ap8 | exact ap9 | exact ap10 | exact ap11)
local macro_rules | `(tactic| walk_at "r") => `(tactic| first | (with_reducible assumption) | exact Rp.at (by with_reducible assumption) 0 (by rfl) | exact Rp.at (by with_reducible assumption) 1 (by rfl) | exact Rp.at (by with_reducible assumption) 2 (by rfl) | exact Rp.at (by with_reducible assumption) 3 (by rfl) | exact Rp.at (by with_reducible assumption) 4 (by rfl) | exact Rp.at (by with_reducible assumption) 5 (by rfl) | exact Rp.at (by with_reducible assumption) 6 (by rfl) | exact Rp.at (by with_reducible assumption) 7 (by rfl) | exact Rp.at (by with_reducible assumption) 8 (by rfl) | exact Rp.at (by with_reducible assumption) 9 (by rfl) | exact Rp.at (by with_reducible assumption) 10 (by rfl) | exact Rp.at (by with_reducible assumption) 11 (by rfl) | exact Rp.at (by with_reducible assumption) 12 (by rfl))
local macro_rules | `(tactic| walk_at "c") => `(tactic| first
  | ((with_reducible apply tt_of); omega)
  | ((with_reducible apply ff_of); omega)
  | ((with_reducible apply tt_of'); omega)
  | ((with_reducible apply ff_of'); omega)
  | ((with_reducible apply tt_b); walk_at "b")
  | ((with_reducible apply ff_b); walk_at "b")
  | ((with_reducible apply tt_b'); walk_at "b")
  | ((with_reducible apply ff_b'); walk_at "b"))
local macro_rules | `(tactic| walk_at "s") => `(tactic| first
  | with_reducible refine y_seq ?_
  | with_reducible refine y_asg ?_
  | with_reducible refine y_if ?_
  | with_reducible refine y_exp ?_
  | with_reducible refine y_ret ?_
  | with_reducible refine y_nm ?_
  | with_reducible refine y_nx ?_
  | with_reducible refine y_rt ?_
  | with_reducible refine y_bk ?_
  | with_reducible refine y_ct ?_
  | with_reducible refine y_tp rfl ?_
  | with_reducible refine y_gcons ?_
  | with_reducible refine y_gnil ?_
  | with_reducible refine y_nxo ?_
  | with_reducible refine y_subM ?_
  | with_reducible refine u_par ?_
  | with_reducible refine u_b2 ?_
  | with_reducible refine u_u1 ?_
  | with_reducible refine u_c ?_
  | with_reducible refine u_nil ?_
  | with_reducible refine u_cons ?_
  | with_reducible refine u_G ?_
  | with_reducible refine u_F ?_
  | with_reducible refine u_Kw ?_
  | with_reducible refine u_tup ?_
  | with_reducible refine u_test ?_
  | with_reducible refine u_notT ?_
  | with_reducible refine u_notV ?_
  | with_reducible refine u_if ?_
  | with_reducible refine u_chainLL ?_
  | with_reducible refine u_chain ?_
  | with_reducible refine u_add ?_
  | with_reducible refine u_sub ?_
  | with_reducible refine u_lt ?_
  | with_reducible refine u_le ?_
  | with_reducible refine u_gt ?_
  | with_reducible refine u_ge ?_
  | with_reducible refine u_neg ?_
  | with_reducible refine u_abs ?_
  | with_reducible refine u_max2 ?_
  | with_reducible refine u_min2 ?_
  | with_reducible refine u_eqI ?_
  | with_reducible refine u_neI ?_
  | with_reducible refine u_eqB ?_
  | with_reducible refine u_neB ?_
  | with_reducible refine u_eqS ?_
  | with_reducible refine u_neS ?_
  | with_reducible refine u_sl ?_
  | with_reducible refine u_no ?_
  | with_reducible refine u_part ?_
  | with_reducible refine u_it ?_
  | with_reducible refine u_srcS ?_
  | with_reducible refine u_srcT ?_
  | with_reducible refine u_rg1 ?_
  | with_reducible refine u_join ?_
  | with_reducible refine u_rev ?_
  | with_reducible refine u_keys ?_
  | with_reducible refine u_zip ?_
  | with_reducible refine u_fld ?_
  | with_reducible refine y_fldR ?_
  | with_reducible refine u_makeR ?_
  | with_reducible refine u_lstR ?_
  | with_reducible refine u_dspR ?_
  | with_reducible refine u_prsN ?_
  | with_reducible refine u_prsC ?_
  | with_reducible refine u_lcR ?_
  | with_reducible refine u_mbL ?_
  | with_reducible refine u_B ?_
  | with_reducible refine u_int_b ?_
  | with_reducible refine u_int_i ?_
  | with_reducible refine u_slT ?_
  | ((with_reducible apply u_var); rfl)
  | ((with_reducible apply u_isi); (first | rfl | exact tyW_ins (by walk_at "r") | exact tyW_lst (by walk_at "r") | exact tyW_dk (by walk_at "r")); rfl; walk_at "i")
  | ((with_reducible apply u_ixA); exact seqLT_of (by walk_at "r"); walk_at "x")
  | ((with_reducible apply u_ixAT); walk_at "x")
  | ((with_reducible apply u_srcL); walk_at "r")
  | ((with_reducible apply u_slS); (with_reducible assumption))
  | ((with_reducible apply u_lenS); (with_reducible assumption))
  | ((with_reducible apply u_len); (first | rfl | exact seqLT_of (by walk_at "r")))
  | ((with_reducible apply u_mod); (first | (with_reducible assumption) | omega))
  | ((with_reducible apply u_fdiv'); omega; omega)
  | ((with_reducible apply u_mulP); omega; omega)
  | ((with_reducible apply u_mulQ); omega; omega)
  | ((with_reducible apply u_powP); omega; omega; omega; omega)
  | ((with_reducible apply u_dget); walk_at "r"; rfl; walk_at "k")
  | ((with_reducible apply u_kd); walk_at "k")
  | ((with_reducible apply u_allL); walk_at "r"; rfl)
  | ((with_reducible apply u_anyL); walk_at "r"; rfl)
  | ((with_reducible apply u_catLR); walk_at "r"; walk_at "r"; rfl; walk_at "t"; (with_reducible assumption); intro _ _ _)
  | ((with_reducible apply u_slLR); walk_at "r"; walk_at "y"; (with_reducible assumption); intro _ _ _)
  | ((with_reducible apply u_listLR); (first | rfl | exact seqLT_of (by walk_at "r")); (with_reducible assumption); intro _ _ _)
  | ((with_reducible apply setR_ok (i := 0)); (with_reducible assumption); rfl; walk_at "x"; walk_at "x"; exact se0; intro _ _)
  | ((with_reducible apply setR_ok (i := 1)); (with_reducible assumption); rfl; walk_at "x"; walk_at "x"; exact se1; intro _ _)
  | ((with_reducible apply setR_ok (i := 2)); (with_reducible assumption); rfl; walk_at "x"; walk_at "x"; exact se2; intro _ _)
  | ((with_reducible apply setR_ok (i := 3)); (with_reducible assumption); rfl; walk_at "x"; walk_at "x"; exact se3; intro _ _)
  | ((with_reducible apply setR_ok (i := 4)); (with_reducible assumption); rfl; walk_at "x"; walk_at "x"; exact se4; intro _ _)
  | ((with_reducible apply setR_ok (i := 5)); (with_reducible assumption); rfl; walk_at "x"; walk_at "x"; exact se5; intro _ _)
  | ((with_reducible apply u_appendR (i := 0)); (with_reducible assumption); rfl; rfl; walk_at "x"; exact se0; intro _ _)
  | ((with_reducible apply u_appendR (i := 1)); (with_reducible assumption); rfl; rfl; walk_at "x"; exact se1; intro _ _)
  | ((with_reducible apply u_appendR (i := 2)); (with_reducible assumption); rfl; rfl; walk_at "x"; exact se2; intro _ _)
  | ((with_reducible apply u_appendR (i := 3)); (with_reducible assumption); rfl; rfl; walk_at "x"; exact se3; intro _ _)
  | ((with_reducible apply u_appendR (i := 4)); (with_reducible assumption); rfl; rfl; walk_at "x"; exact se4; intro _ _)
  | ((with_reducible apply u_appendR (i := 5)); (with_reducible assumption); rfl; rfl; walk_at "x"; exact se5; intro _ _)
  | with_reducible refine ⟨_, _, _, rfl, rfl, rfl, rfl, ?_⟩
  | with_reducible refine ⟨_, rfl, ?_⟩
  | ((with_reducible apply lst_go); rfl; (with_reducible assumption); intro _ _ _)
  | ((with_reducible apply make_go'); rfl; rfl; (with_reducible assumption); intro _ _ _)
  | ((with_reducible apply kwd_go); rfl; rfl)
  | ((with_reducible apply len_go); rfl)
  | ((with_reducible apply tup_go); rfl)
  | ((with_reducible apply fld_go); walk_at "r"; (first | exact List.mem_singleton_self _ | simp); walk_at "k")
  | ((with_reducible apply mb_go); walk_at "r")
  | ((with_reducible apply zip_go); walk_at "r"; walk_at "r")
  | ((with_reducible apply dsp_go); (with_reducible assumption); rfl; walk_at "m"; intro _ _)
  | ((with_reducible apply key_go); rfl)
  | ((with_reducible apply lcc_go (i := 0)); (with_reducible assumption); rfl; rfl; walk_at "x"; exact se0; intro _ _)
  | ((with_reducible apply lcc_go (i := 1)); (with_reducible assumption); rfl; rfl; walk_at "x"; exact se1; intro _ _)
  | ((with_reducible apply lcc_go (i := 2)); (with_reducible assumption); rfl; rfl; walk_at "x"; exact se2; intro _ _)
  | ((with_reducible apply lcc_go (i := 3)); (with_reducible assumption); rfl; rfl; walk_at "x"; exact se3; intro _ _)
  | ((with_reducible apply lcc_go (i := 4)); (with_reducible assumption); rfl; rfl; walk_at "x"; exact se4; intro _ _)
  | ((with_reducible apply lcc_go (i := 5)); (with_reducible assumption); rfl; rfl; walk_at "x"; exact se5; intro _ _)
  | ((with_reducible apply xfld_go (i := 0)); (with_reducible assumption); rfl; (first | exact List.mem_singleton_self _ | simp); rfl; walk_at "p"; exact se0; intro _ _)
  | ((with_reducible apply xfld_go (i := 1)); (with_reducible assumption); rfl; (first | exact List.mem_singleton_self _ | simp); rfl; walk_at "p"; exact se1; intro _ _)
  | ((with_reducible apply xfld_go (i := 2)); (with_reducible assumption); rfl; (first | exact List.mem_singleton_self _ | simp); rfl; walk_at "p"; exact se2; intro _ _)
  | ((with_reducible apply xfld_go (i := 3)); (with_reducible assumption); rfl; (first | exact List.mem_singleton_self _ | simp); rfl; walk_at "p"; exact se3; intro _ _)
  | ((with_reducible apply xfld_go (i := 4)); (with_reducible assumption); rfl; (first | exact List.mem_singleton_self _ | simp); rfl; walk_at "p"; exact se4; intro _ _)
  | ((with_reducible apply xfld_go (i := 5)); (with_reducible assumption); rfl; (first | exact List.mem_singleton_self _ | simp); rfl; walk_at "p"; exact se5; intro _ _)
  | ((with_reducible apply new_go); (with_reducible assumption); intro _ _ _))
local macro_rules | `(tactic| walk_at "l") => `(tactic| first
  | refine u_lcC trivial rfl ?_ | refine u_lcN trivial ?_ | refine u_lcC (seqL_of (by walk_at "r")) rfl ?_ | refine u_lcN (seqL_of (by walk_at "r")) ?_
  | refine u_lcC ⟨seqL_of (by walk_at "r"), seqL_of (by walk_at "r")⟩ rfl ?_ | refine u_lcN ⟨seqL_of (by walk_at "r"), seqL_of (by walk_at "r")⟩ ?_
  | refine y_lpC trivial ?_ | refine y_lpN trivial ?_ | refine y_lpC (seqL_of (by walk_at "r")) ?_ | refine y_lpN (seqL_of (by walk_at "r")) ?_)
local macro_rules | `(tactic| walk_at "a") => `(tactic| with_reducible first | refine u_andT ?_ | refine u_orT ?_ | refine u_andV ?_ | refine u_orV ?_)
local macro_rules | `(tactic| walk_at "P") => `(tactic| first
  | (with_reducible refine u_andTP ?_) | (with_reducible refine u_orTP ?_) | (with_reducible refine u_andVP ?_) | (with_reducible refine u_orVP ?_)
  | ((with_reducible apply i_andp_go); (intro _; walk_at "gp"; exact ⟨rfl, rfl⟩)) | ((with_reducible apply i_orp_go); (intro _; walk_at "gp"; exact ⟨rfl, rfl⟩)) | ((with_reducible apply i_andtp_go); (intro _; walk_at "gp"; exact ⟨rfl, rfl⟩)) | ((with_reducible apply i_ortp_go); (intro _; walk_at "gp"; exact ⟨rfl, rfl⟩)))
local macro_rules | `(tactic| walk_at "gp") => `(tactic| repeat first | walk_at "s" | walk_at "P" | walk_at "c" | walk_at "d" | walk_at "l")
local macro_rules | `(tactic| walk_at "g") => `(tactic| repeat first | walk_at "s" | walk_at "a" | walk_at "c" | walk_at "d" | walk_at "l")
local macro_rules | `(tactic| walk_at "d") => `(tactic| first | ((with_reducible apply take_R (i := 0)); (with_reducible assumption); rfl; (with_reducible assumption); (first | omega | (rfl)); (first | omega | rfl); (exact fun _ _ => se0); intro _ _ _ _ _ _ _ _) | ((with_reducible apply take_R (i := 1)); (with_reducible assumption); rfl; (with_reducible assumption); (first | omega | (rfl)); (first | omega | rfl); (exact fun _ _ => se1); intro _ _ _ _ _ _ _ _) | ((with_reducible apply take_R (i := 2)); (with_reducible assumption); rfl; (with_reducible assumption); (first | omega | (rfl)); (first | omega | rfl); (exact fun _ _ => se2); intro _ _ _ _ _ _ _ _) | ((with_reducible apply take_R (i := 3)); (with_reducible assumption); rfl; (with_reducible assumption); (first | omega | (rfl)); (first | omega | rfl); (exact fun _ _ => se3); intro _ _ _ _ _ _ _ _) | ((with_reducible apply take_R (i := 4)); (with_reducible assumption); rfl; (with_reducible assumption); (first | omega | (rfl)); (first | omega | rfl); (exact fun _ _ => se4); intro _ _ _ _ _ _ _ _) | ((with_reducible apply take_R (i := 5)); (with_reducible assumption); rfl; (with_reducible assumption); (first | omega | (rfl)); (first | omega | rfl); (exact fun _ _ => se5); intro _ _ _ _ _ _ _ _) | ((with_reducible apply take_R (i := 6)); (with_reducible assumption); rfl; (with_reducible assumption); (first | omega | (rfl)); (first | omega | rfl); (exact fun _ _ => se6); intro _ _ _ _ _ _ _ _) | ((with_reducible apply take_R (i := 7)); (with_reducible assumption); rfl; (with_reducible assumption); (first | omega | (rfl)); (first | omega | rfl); (exact fun _ _ => se7); intro _ _ _ _ _ _ _ _) | ((with_reducible apply take_R (i := 8)); (with_reducible assumption); rfl; (with_reducible assumption); (first | omega | (rfl)); (first | omega | rfl); (exact fun _ _ => se8); intro _ _ _ _ _ _ _ _) | ((with_reducible apply take_R (i := 9)); (with_reducible assumption); rfl; (with_reducible assumption); (first | omega | (rfl)); (first | omega | rfl); (exact fun _ _ => se9); intro _ _ _ _ _ _ _ _))
local macro_rules | `(tactic| walk_at "ind1") => `(tactic| first
  | with_reducible exact ie_is | with_reducible exact ie_c | with_reducible exact ie_nil | with_reducible exact ie_mB | with_reducible exact is_nx | with_reducible exact ig_nil | with_reducible exact is_rt
  | ((with_reducible apply ie_var); decide) | with_reducible apply ie_cons | with_reducible apply ie_tup | with_reducible apply ie_lst | with_reducible apply ie_G | with_reducible apply ie_b2
  | with_reducible apply ie_test | with_reducible apply ie_notT | with_reducible apply ie_notV | with_reducible apply ie_andT | with_reducible apply ie_orT | with_reducible apply ie_andV | with_reducible apply ie_orV
  | with_reducible apply ie_if | with_reducible apply ie_itL | ((with_reducible apply ig_nm); decide) | with_reducible apply ig_cons | with_reducible apply ig_tp | ((with_reducible refine ie_lc ?_ ?_ ?_ ?_ (by decide)))
  | with_reducible apply is_seq | ((with_reducible refine is_asg ?_ (by decide))) | with_reducible apply is_ret | with_reducible apply is_exp | with_reducible apply is_if | with_reducible apply ie_F)
local macro_rules | `(tactic| walk_at "ind") => `(tactic| repeat walk_at "ind1")
local macro_rules | `(tactic| walk_at "xi") => `(tactic| with_reducible first | exact xi_NoName_Came (by assumption) | exact xi_NoName_Claimed (by assumption) | exact xi_NoName_Due (by assumption) | exact xi_NoName_Early (by assumption) | exact xi_NoName_IsOn (by assumption) | exact xi_NoName_LookupError (by assumption) | exact xi_NoName_NoBounds (by assumption) | exact xi_NoName_NoClaim (by assumption) | exact xi_NoName_NoHand (by assumption) | exact xi_NoName_NoHands (by assumption) | exact xi_NoName_NoLess (by assumption) | exact xi_NoName_NoLetter (by assumption) | exact xi_NoName_NoMark (by assumption) | exact xi_NoName_NoName (by assumption) | exact xi_NoName_NoNext (by assumption) | exact xi_NoName_NoPaper (by assumption) | exact xi_NoName_NoRule (by assumption) | exact xi_NoName_NoSaying (by assumption) | exact xi_NoName_NoScript (by assumption) | exact xi_NoName_NoTries (by assumption) | exact xi_NoName_NoWire (by assumption) | exact xi_NoName_NotEmpty (by assumption) | exact xi_NoName_NotOn (by assumption) | exact xi_NoName_Owed (by assumption) | exact xi_NoName_SameWire (by assumption) | exact xi_NoName_TooMany (by assumption) | exact xi_NoName_ValueError (by assumption) | exact xi_NoName_WireError (by assumption) | exact xi_NoNext_Came (by assumption) | exact xi_NoNext_Claimed (by assumption) | exact xi_NoNext_Due (by assumption) | exact xi_NoNext_Early (by assumption) | exact xi_NoNext_IsOn (by assumption) | exact xi_NoNext_LookupError (by assumption) | exact xi_NoNext_NoBounds (by assumption) | exact xi_NoNext_NoClaim (by assumption) | exact xi_NoNext_NoHand (by assumption) | exact xi_NoNext_NoHands (by assumption) | exact xi_NoNext_NoLess (by assumption) | exact xi_NoNext_NoLetter (by assumption) | exact xi_NoNext_NoMark (by assumption) | exact xi_NoNext_NoName (by assumption) | exact xi_NoNext_NoNext (by assumption) | exact xi_NoNext_NoPaper (by assumption) | exact xi_NoNext_NoRule (by assumption) | exact xi_NoNext_NoSaying (by assumption) | exact xi_NoNext_NoScript (by assumption) | exact xi_NoNext_NoTries (by assumption) | exact xi_NoNext_NoWire (by assumption) | exact xi_NoNext_NotEmpty (by assumption) | exact xi_NoNext_NotOn (by assumption) | exact xi_NoNext_Owed (by assumption) | exact xi_NoNext_SameWire (by assumption) | exact xi_NoNext_TooMany (by assumption) | exact xi_NoNext_ValueError (by assumption) | exact xi_NoNext_WireError (by assumption))
local macro_rules | `(tactic| walk_at "ind1") => `(tactic| exact ie_exn (fun h => which_ind h))
/-! ### what is due -/
section
variable {A : Ad} {bs : List Blk} {b : Nat} {z : Str} {h : Hv} {Q : W → Hv → Prop} {X : XH}
theorem at_last {cs : List Nat} {c : Nat} (ez : z.cps.toList = cs ++ [c]) : atI z.cps.toList (-1) = some c := by
  rw [ez]
  unfold atI ixN
  rw [if_neg (by decide), if_pos (by simp; omega)]
  show (cs ++ [c])[((-1 : Int) + ((cs ++ [c]).length : Int)).toNat]? = _
  rw [show ((-1 : Int) + ((cs ++ [c]).length : Int)).toNat = cs.length by simp; omega]
  simp
theorem in_listS {c : Nat} {s : Str} (cz : s.cps.size ≤ sizeLine) (H : Rp bs h) (q : ∀ h', Rp bs h' → Q (.bl (decide (c ∈ s.cps.toList))) h') : eW (listM [.str s] h) (fun y h2 => eW (inM (.str ⟨#[c]⟩) y h2) Q X) X := by
  refine u_listS cz ?_
  have H2 : Rp ([(h.length, .lst (Z.signs s))] :: bs) (h ++ [.lst (Z.signs s)]) := H.new
  refine u_inF (ws := Z.signs s) (seqLT_of (H2.at 0 rfl)) rfl (by unfold Z.signs; simp [flatW]) ?_
  have e : inV (fV (.str ⟨#[c]⟩)) ((Z.signs s).map fV) = decide (c ∈ s.cps.toList) := inV_sign
  rw [e]
  exact q _ H2.tl
theorem init_cat {cs : List Nat} {d : Nat} {s : Str} (es : s = ⟨#[d]⟩) : (⟨cs.toArray⟩ : Str) ++ s = ⟨(cs ++ [d]).toArray⟩ := by
  subst es
  apply str_ext
  rw [Str.cps_append, Array.toList_append]
theorem init_fin {cs : List Nat} {d : Nat} {s : Str} (es : s = ⟨#[d]⟩) (hl : cs.length ≤ 1000) (q : Q (.str ⟨(cs ++ [d]).toArray⟩) h) : eW (addM (.str ⟨cs.toArray⟩) (.str s) h) Q X := by
  have l1 : (⟨cs.toArray⟩ : Str).length = cs.length := by simp [Str.length]
  have l2 : s.length = 1 := by subst es; rfl
  refine u_catK (by omega) ?_
  rw [init_cat es]; exact q
theorem f28 {c : Nat} : c ∈ ("2345678" : Str).cps.toList ↔ 50 ≤ c ∧ c ≤ 56 := by
  have e : ("2345678" : Str).cps.toList = [50, 51, 52, 53, 54, 55, 56] := by decide +kernel
  rw [e]; simp; omega
theorem ldue_s (H : Rp bs h) (hz : z.length ≤ 1000) (q : ∀ w h', Nx z w → Rp bs h' → Q w h') : eW (F_law_due A [.str z] h) Q X := by
  have hz2 : z.length ≤ sizeLine := Nat.le_trans hz (by decide)
  unfold F_law_due
  refine u_runB ?_
  show sW (m_law_due A [some (.str z)] h) _ _ _ _ _
  unfold m_law_due
  repeat walk_at "s"
  refine good_e H hz fun h1 H1 => ?_
  cases e : nb z with
  | false =>
    walk_at "g"
    exact q _ _ (.bad e) H1
  | true =>
    obtain ⟨cs, c, ez, _, hc⟩ := nb_inv e
    have e2 := at_last ez
    walk_at "g"
    refine u_ixAS hz2 e2 ?_
    repeat walk_at "s"
    by_cases h9 : c = 57
    · subst h9
      refine tt_b (by decide +kernel) ?_
      walk_at "g"
      exact q _ _ (.nine e ez) H1
    refine ff_b (ne9 h9) ?_
    walk_at "g"
    refine u_ixAS hz2 e2 ?_
    repeat walk_at "s"
    refine in_listS (by decide +kernel) H1 fun h2 H2 => ?_
    repeat walk_at "s"
    by_cases hf : 50 ≤ c ∧ c ≤ 56
    · refine tt_b (decide_eq_true (f28.mpr hf)) ?_
      walk_at "g"
      rw [(cut_last ez).2]
      have hcs : cs.length ≤ 1000 := by
        have e1 : z.length = z.cps.toList.length := by simp [Str.length]
        rw [e1, ez] at hz
        simp at hz
        omega
      have hk : c = 50 ∨ c = 51 ∨ c = 52 ∨ c = 53 ∨ c = 54 ∨ c = 55 ∨ c = 56 := by omega
      rcases hk with rfl | rfl | rfl | rfl | rfl | rfl | rfl
      · refine u_ixAS hz2 e2 ?_
        repeat walk_at "s"
        refine u_intS (n := 2) (by decide +kernel) (by decide) ?_
        repeat walk_at "s"
        refine u_strI (by decide +kernel) ?_
        repeat walk_at "s"
        exact init_fin (d := 51) (by decide +kernel) hcs (q _ _ (.fig e ez (by omega)) H2)
      · refine u_ixAS hz2 e2 ?_
        repeat walk_at "s"
        refine u_intS (n := 3) (by decide +kernel) (by decide) ?_
        repeat walk_at "s"
        refine u_strI (by decide +kernel) ?_
        repeat walk_at "s"
        exact init_fin (d := 52) (by decide +kernel) hcs (q _ _ (.fig e ez (by omega)) H2)
      · refine u_ixAS hz2 e2 ?_
        repeat walk_at "s"
        refine u_intS (n := 4) (by decide +kernel) (by decide) ?_
        repeat walk_at "s"
        refine u_strI (by decide +kernel) ?_
        repeat walk_at "s"
        exact init_fin (d := 53) (by decide +kernel) hcs (q _ _ (.fig e ez (by omega)) H2)
      · refine u_ixAS hz2 e2 ?_
        repeat walk_at "s"
        refine u_intS (n := 5) (by decide +kernel) (by decide) ?_
        repeat walk_at "s"
        refine u_strI (by decide +kernel) ?_
        repeat walk_at "s"
        exact init_fin (d := 54) (by decide +kernel) hcs (q _ _ (.fig e ez (by omega)) H2)
      · refine u_ixAS hz2 e2 ?_
        repeat walk_at "s"
        refine u_intS (n := 6) (by decide +kernel) (by decide) ?_
        repeat walk_at "s"
        refine u_strI (by decide +kernel) ?_
        repeat walk_at "s"
        exact init_fin (d := 55) (by decide +kernel) hcs (q _ _ (.fig e ez (by omega)) H2)
      · refine u_ixAS hz2 e2 ?_
        repeat walk_at "s"
        refine u_intS (n := 7) (by decide +kernel) (by decide) ?_
        repeat walk_at "s"
        refine u_strI (by decide +kernel) ?_
        repeat walk_at "s"
        exact init_fin (d := 56) (by decide +kernel) hcs (q _ _ (.fig e ez (by omega)) H2)
      · refine u_ixAS hz2 e2 ?_
        repeat walk_at "s"
        refine u_intS (n := 8) (by decide +kernel) (by decide) ?_
        repeat walk_at "s"
        refine u_strI (by decide +kernel) ?_
        repeat walk_at "s"
        exact init_fin (d := 57) (by decide +kernel) hcs (q _ _ (.fig e ez (by omega)) H2)
    · refine ff_b (decide_eq_false fun k => hf (f28.mp k)) ?_
      walk_at "g"
      refine u_catK (by have : ("2" : Str).length = 1 := by decide
                        omega) ?_
      refine q _ _ (.letter e ez fun k => ?_) H2
      have := fg_cases k h9
      omega
/-- of another kind -/
theorem lnext_n {w : W} {t : String} (hx : Cons (tabX A)) (H : Rp bs h) (ht : tyW h w = some (.type t)) (hk : kitB t "str" = some false) (q : ∀ h', Rp bs h' → Q (.tup [.str "NoName"]) h') : eW (F_law_next A [w] h) Q X := by
  unfold F_law_next
  refine u_runB ?_
  show sW (m_law_next A [some w, none, none] h) _ _ _ _ _
  unfold m_law_next
  repeat walk_at "s"
  refine y_tryA ?_
  repeat walk_at "s"
  refine next_x (lookn_n H ht hk fun h1 H1 => ?_)
  refine ⟨A.a_NoName, rfl, xe_NoName, fun a => is_ret (ie_tup (ie_cons (ie_exn (fun h => which_ind h)) ie_nil)), ?_⟩
  refine y_ret (u_tup (u_cons (u_F (u_cons (u_var rfl (u_nil ⟨rfl, which_NoName hx H1 fun h2 H2 => u_nil ⟨show 1 ≤ sizeLine by decide, q _ H2⟩⟩))))))
theorem ldue_n {w : W} {t : String} (H : Rp bs h) (ht : tyW h w = some (.type t)) (hk : kitB t "str" = some false) (q : ∀ h', Rp bs h' → Q (.tup [.str "NoName"]) h') : eW (F_law_due A [w] h) Q X := by
  unfold F_law_due
  refine u_runB ?_
  show sW (m_law_due A [some w] h) _ _ _ _ _
  unfold m_law_due
  repeat walk_at "s"
  refine good_n H ht hk fun h1 H1 => ?_
  walk_at "g"
  exact q _ H1
/-- a valid name's next one is valid, later -/
def rk (c : Nat) : Nat := if 50 ≤ c ∧ c ≤ 57 then c - 49 else 0
theorem Nx.nb {y : Str} {cs : List Nat} {c : Nat} (e : nb z = true) (ez : z.cps.toList = cs ++ [c]) (a : Nx z (.str y)) : K02.nb y = true ∧ ∃ ds d, y.cps.toList = ds ++ [d] ∧ rk d = rk c + 1 := by
  obtain ⟨cs', c', ez', hl, hc⟩ := nb_inv e
  rw [ez] at ez'
  obtain ⟨rfl, rfl⟩ := cc_eq ez'
  have dj : ∀ x ∈ lts.cps.toList, x ∉ fgs.cps.toList := by decide +kernel
  generalize ew : W.str y = w at a
  cases a with
  | bad _ => cases ew
  | nine _ _ => cases ew
  | @fig ds d _ e2 r =>
    cases ew
    rw [ez] at e2
    obtain ⟨rfl, rfl⟩ := cc_eq e2
    have hf : c ∈ fgs.cps.toList := fg_in (by omega)
    refine ⟨nb_of (cs := cs) (c := c + 1) (by simp) hl (.inr ⟨fg_in (by omega), ?_⟩), cs, c + 1, by simp, ?_⟩
    · rcases hc with ⟨h1, _⟩ | ⟨_, h2⟩
      · exact absurd hf (dj _ h1)
      · exact h2
    · unfold rk; rw [if_pos (by omega), if_pos (by omega)]; omega
  | @letter ds d _ e2 r =>
    cases ew
    rw [ez] at e2
    obtain ⟨rfl, rfl⟩ := cc_eq e2
    have e50 : ("2" : Str).cps.toList = [50] := by decide +kernel
    have ey : (z ++ "2").cps.toList = (cs ++ [c]) ++ [50] := by
      rw [Str.cps_append, Array.toList_append, ez, e50]
    rcases hc with ⟨h1, h2⟩ | ⟨h1, _⟩
    · refine ⟨nb_of ey (fun x hx => ?_) (.inr ⟨fg_in (by omega), by simp, by simp; omega⟩), _, _, ey, ?_⟩
      · rcases List.mem_append.mp hx with hx | hx
        · exact hl x hx
        · rw [List.mem_singleton.mp hx]; exact h1
      · unfold rk; rw [if_pos (by omega), if_neg (fun k => r (fg_in k))]
    · exact absurd h1 r
theorem nb_len (e : K02.nb z = true) : z.length ≤ 9 := by
  obtain ⟨cs, c, ez, _, hc⟩ := nb_inv e
  have e1 : z.length = z.cps.toList.length := by simp [Str.length]
  rw [e1, ez]
  simp
  omega
theorem nb_sm (e : K02.nb z = true) : SmS 9 z := by
  obtain ⟨cs, c, ez, hl, hc⟩ := nb_inv e
  refine ⟨nb_len e, fun x hx => ?_⟩
  have bl : ∀ x ∈ lts.cps.toList, x < 16 ^ 8 := by decide +kernel
  have bf : ∀ x ∈ fgs.cps.toList, x < 16 ^ 8 := by decide +kernel
  rw [ez] at hx
  rcases List.mem_append.mp hx with hx | hx
  · exact bl _ (hl x hx)
  · rw [List.mem_singleton.mp hx]
    rcases hc with ⟨h1, _⟩ | ⟨h1, _⟩
    · exact bl _ h1
    · exact bf _ h1
end
end K02
namespace K02
open PySem L2 Z
local macro_rules | `(tactic| walk_at "b") => `(tactic| first | rfl | (with_reducible assumption) | (simp only [Bool.not_eq_true', Bool.not_eq_false', decide_eq_true_eq, decide_eq_false_iff_not, Bool.not_eq_true, Bool.not_eq_false, Bool.and_eq_true, Bool.or_eq_true, Bool.and_eq_false_iff, Bool.or_eq_false_iff, Bool.not_true, Bool.not_false, decide_true, decide_false, List.all_cons, List.all_nil, List.any_cons, List.any_nil, id_eq, Bool.and_true, Bool.true_and, Bool.false_or, Bool.or_false, Bool.and_self, and_true, true_and, beq_self_eq_true] <;> omega))
local macro_rules | `(tactic| walk_at "k") => `(tactic| rfl)
local macro_rules | `(tactic| walk_at "p") => `(tactic| rfl)
local macro_rules | `(tactic| walk_at "m") => `(tactic| rfl)
local macro_rules | `(tactic| walk_at "i") => `(tactic| rfl)
local macro_rules | `(tactic| walk_at "y") => `(tactic| first | exact ct0 | exact cd0 | exact ct1 | exact cd1 | exact ct2 | exact cd2 | exact ct3 | exact cd3 | exact ct4 | exact cd4 | exact ct5 | exact cd5 | exact ct6 | exact cd6)
local macro_rules | `(tactic| walk_at "t") => `(tactic| ((repeat (with_reducible apply cat_cons)); exact List.nil_append _))
local macro_rules | `(tactic| walk_at "x") => `(tactic| with_reducible first | exact ix0 | exact ix1 | exact ix2 | exact ix3 | exact ix4 | exact ix5 | exact ix6 | exact ix7 | exact ix8 | exact ix9 | exact ix10 | exact ix11 | exact iy0 | exact iy1 | exact iy2 | exact iy3 | exact iy4 | exact iy5 | exact iy6 | exact iy7 | exact iy8 | exact iy9 | exact iy10 | exact iy11 | exact se0 | exact se1 | exact se2 | exact se3 | exact se4 | exact se5 | exact se6 | exact se7 | exact se8 | exact se9 | exact se10 | exact se11 | exact ap0 | exact ap1 | exact ap2 | exact ap3 | exact ap4 | exact ap5 | exact ap6 | exact ap7 | exact ap8 | exact ap9 | exact ap10 | exact ap11)
local macro_rules | `(tactic| walk_at "r") => `(tactic| first | (with_reducible assumption) | exact Rp.at (by with_reducible assumption) 0 (by rfl) | exact Rp.at (by with_reducible assumption) 1 (by rfl) | exact Rp.at (by with_reducible assumption) 2 (by rfl) | exact Rp.at (by with_reducible assumption) 3 (by rfl) | exact Rp.at (by with_reducible assumption) 4 (by rfl) | exact Rp.at (by with_reducible assumption) 5 (by rfl) | exact Rp.at (by with_reducible assumption) 6 (by rfl) | exact Rp.at (by with_reducible assumption) 7 (by rfl) | exact Rp.at (by with_reducible assumption) 8 (by rfl) | exact Rp.at (by with_reducible assumption) 9 (by rfl) | exact Rp.at (by with_reducible assumption) 10 (by rfl) | exact Rp.at (by with_reducible assumption) 11 (by rfl) | exact Rp.at (by with_reducible assumption) 12 (by rfl))
local macro_rules | `(tactic| walk_at "c") => `(tactic| first
  | ((with_reducible apply tt_of); omega)
  | ((with_reducible apply ff_of); omega)
  | ((with_reducible apply tt_of'); omega)
  | ((with_reducible apply ff_of'); omega)
  | ((with_reducible apply tt_b); walk_at "b")
  | ((with_reducible apply ff_b); walk_at "b")
  | ((with_reducible apply tt_b'); walk_at "b")
  | ((with_reducible apply ff_b'); walk_at "b"))
local macro_rules | `(tactic| walk_at "s") => `(tactic| first
  | with_reducible refine y_seq ?_
  | with_reducible refine y_asg ?_
  | with_reducible refine y_if ?_
  | with_reducible refine y_exp ?_
  | with_reducible refine y_ret ?_
  | with_reducible refine y_nm ?_
  | with_reducible refine y_nx ?_
  | with_reducible refine y_rt ?_
  | with_reducible refine y_bk ?_
  | with_reducible refine y_ct ?_
  | with_reducible refine y_tp rfl ?_
  | with_reducible refine y_gcons ?_
  | with_reducible refine y_gnil ?_
  | with_reducible refine y_nxo ?_
  | with_reducible refine y_subM ?_
  | with_reducible refine u_par ?_
  | with_reducible refine u_b2 ?_
  | with_reducible refine u_u1 ?_
  | with_reducible refine u_c ?_
  | with_reducible refine u_nil ?_
  | with_reducible refine u_cons ?_
  | with_reducible refine u_G ?_
  | with_reducible refine u_F ?_
  | with_reducible refine u_Kw ?_
  | with_reducible refine u_tup ?_
  | with_reducible refine u_test ?_
  | with_reducible refine u_notT ?_
  | with_reducible refine u_notV ?_
  | with_reducible refine u_if ?_
  | with_reducible refine u_chainLL ?_
  | with_reducible refine u_chain ?_
  | with_reducible refine u_add ?_
  | with_reducible refine u_sub ?_
  | with_reducible refine u_lt ?_
  | with_reducible refine u_le ?_
  | with_reducible refine u_gt ?_
  | with_reducible refine u_ge ?_
  | with_reducible refine u_neg ?_
  | with_reducible refine u_abs ?_
  | with_reducible refine u_max2 ?_
  | with_reducible refine u_min2 ?_
  | with_reducible refine u_eqI ?_
  | with_reducible refine u_neI ?_
  | with_reducible refine u_eqB ?_
  | with_reducible refine u_neB ?_
  | with_reducible refine u_eqS ?_
  | with_reducible refine u_neS ?_
  | with_reducible refine u_sl ?_
  | with_reducible refine u_no ?_
  | with_reducible refine u_part ?_
  | with_reducible refine u_it ?_
  | with_reducible refine u_srcS ?_
  | with_reducible refine u_srcT ?_
  | with_reducible refine u_rg1 ?_
  | with_reducible refine u_join ?_
  | with_reducible refine u_rev ?_
  | with_reducible refine u_keys ?_
  | with_reducible refine u_zip ?_
  | with_reducible refine u_fld ?_
  | with_reducible refine y_fldR ?_
  | with_reducible refine u_makeR ?_
  | with_reducible refine u_lstR ?_
  | with_reducible refine u_dspR ?_
  | with_reducible refine u_prsN ?_
  | with_reducible refine u_prsC ?_
  | with_reducible refine u_lcR ?_
  | with_reducible refine u_mbL ?_
  | with_reducible refine u_B ?_
  | with_reducible refine u_int_b ?_
  | with_reducible refine u_int_i ?_
  | with_reducible refine u_slT ?_
  | ((with_reducible apply u_var); rfl)
  | ((with_reducible apply u_isi); (first | rfl | exact tyW_ins (by walk_at "r") | exact tyW_lst (by walk_at "r") | exact tyW_dk (by walk_at "r")); rfl; walk_at "i")
  | ((with_reducible apply u_ixA); exact seqLT_of (by walk_at "r"); walk_at "x")
  | ((with_reducible apply u_ixAT); walk_at "x")
  | ((with_reducible apply u_srcL); walk_at "r")
  | ((with_reducible apply u_slS); (with_reducible assumption))
  | ((with_reducible apply u_lenS); (with_reducible assumption))
  | ((with_reducible apply u_len); (first | rfl | exact seqLT_of (by walk_at "r")))
  | ((with_reducible apply u_mod); (first | (with_reducible assumption) | omega))
  | ((with_reducible apply u_fdiv'); omega; omega)
  | ((with_reducible apply u_mulP); omega; omega)
  | ((with_reducible apply u_mulQ); omega; omega)
  | ((with_reducible apply u_powP); omega; omega; omega; omega)
  | ((with_reducible apply u_dget); walk_at "r"; rfl; walk_at "k")
  | ((with_reducible apply u_kd); walk_at "k")
  | ((with_reducible apply u_allL); walk_at "r"; rfl)
  | ((with_reducible apply u_anyL); walk_at "r"; rfl)
  | ((with_reducible apply u_catLR); walk_at "r"; walk_at "r"; rfl; walk_at "t"; (with_reducible assumption); intro _ _ _)
  | ((with_reducible apply u_slLR); walk_at "r"; walk_at "y"; (with_reducible assumption); intro _ _ _)
  | ((with_reducible apply u_listLR); (first | rfl | exact seqLT_of (by walk_at "r")); (with_reducible assumption); intro _ _ _)
  | ((with_reducible apply setR_ok (i := 0)); (with_reducible assumption); rfl; walk_at "x"; walk_at "x"; exact se0; intro _ _)
  | ((with_reducible apply setR_ok (i := 1)); (with_reducible assumption); rfl; walk_at "x"; walk_at "x"; exact se1; intro _ _)
  | ((with_reducible apply setR_ok (i := 2)); (with_reducible assumption); rfl; walk_at "x"; walk_at "x"; exact se2; intro _ _)
  | ((with_reducible apply setR_ok (i := 3)); (with_reducible assumption); rfl; walk_at "x"; walk_at "x"; exact se3; intro _ _)
  | ((with_reducible apply setR_ok (i := 4)); (with_reducible assumption); rfl; walk_at "x"; walk_at "x"; exact se4; intro _ _)
  | ((with_reducible apply setR_ok (i := 5)); (with_reducible assumption); rfl; walk_at "x"; walk_at "x"; exact se5; intro _ _)
  | ((with_reducible apply u_appendR (i := 0)); (with_reducible assumption); rfl; rfl; walk_at "x"; exact se0; intro _ _)
  | ((with_reducible apply u_appendR (i := 1)); (with_reducible assumption); rfl; rfl; walk_at "x"; exact se1; intro _ _)
  | ((with_reducible apply u_appendR (i := 2)); (with_reducible assumption); rfl; rfl; walk_at "x"; exact se2; intro _ _)
  | ((with_reducible apply u_appendR (i := 3)); (with_reducible assumption); rfl; rfl; walk_at "x"; exact se3; intro _ _)
  | ((with_reducible apply u_appendR (i := 4)); (with_reducible assumption); rfl; rfl; walk_at "x"; exact se4; intro _ _)
  | ((with_reducible apply u_appendR (i := 5)); (with_reducible assumption); rfl; rfl; walk_at "x"; exact se5; intro _ _)
  | with_reducible refine ⟨_, _, _, rfl, rfl, rfl, rfl, ?_⟩
  | with_reducible refine ⟨_, rfl, ?_⟩
  | ((with_reducible apply lst_go); rfl; (with_reducible assumption); intro _ _ _)
  | ((with_reducible apply make_go'); rfl; rfl; (with_reducible assumption); intro _ _ _)
  | ((with_reducible apply kwd_go); rfl; rfl)
  | ((with_reducible apply len_go); rfl)
  | ((with_reducible apply tup_go); rfl)
  | ((with_reducible apply fld_go); walk_at "r"; (first | exact List.mem_singleton_self _ | simp); walk_at "k")
  | ((with_reducible apply mb_go); walk_at "r")
  | ((with_reducible apply zip_go); walk_at "r"; walk_at "r")
  | ((with_reducible apply dsp_go); (with_reducible assumption); rfl; walk_at "m"; intro _ _)
  | ((with_reducible apply key_go); rfl)
  | ((with_reducible apply lcc_go (i := 0)); (with_reducible assumption); rfl; rfl; walk_at "x"; exact se0; intro _ _)
  | ((with_reducible apply lcc_go (i := 1)); (with_reducible assumption); rfl; rfl; walk_at "x"; exact se1; intro _ _)
  | ((with_reducible apply lcc_go (i := 2)); (with_reducible assumption); rfl; rfl; walk_at "x"; exact se2; intro _ _)
  | ((with_reducible apply lcc_go (i := 3)); (with_reducible assumption); rfl; rfl; walk_at "x"; exact se3; intro _ _)
  | ((with_reducible apply lcc_go (i := 4)); (with_reducible assumption); rfl; rfl; walk_at "x"; exact se4; intro _ _)
  | ((with_reducible apply lcc_go (i := 5)); (with_reducible assumption); rfl; rfl; walk_at "x"; exact se5; intro _ _)
  | ((with_reducible apply xfld_go (i := 0)); (with_reducible assumption); rfl; (first | exact List.mem_singleton_self _ | simp); rfl; walk_at "p"; exact se0; intro _ _)
  | ((with_reducible apply xfld_go (i := 1)); (with_reducible assumption); rfl; (first | exact List.mem_singleton_self _ | simp); rfl; walk_at "p"; exact se1; intro _ _)
  | ((with_reducible apply xfld_go (i := 2)); (with_reducible assumption); rfl; (first | exact List.mem_singleton_self _ | simp); rfl; walk_at "p"; exact se2; intro _ _)
  | ((with_reducible apply xfld_go (i := 3)); (with_reducible assumption); rfl; (first | exact List.mem_singleton_self _ | simp); rfl; walk_at "p"; exact se3; intro _ _)
  | ((with_reducible apply xfld_go (i := 4)); (with_reducible assumption); rfl; (first | exact List.mem_singleton_self _ | simp); rfl; walk_at "p"; exact se4; intro _ _)
  | ((with_reducible apply xfld_go (i := 5)); (with_reducible assumption); rfl; (first | exact List.mem_singleton_self _ | simp); rfl; walk_at "p"; exact se5; intro _ _)
  | ((with_reducible apply new_go); (with_reducible assumption); intro _ _ _))
local macro_rules | `(tactic| walk_at "l") => `(tactic| first
  | refine u_lcC trivial rfl ?_ | refine u_lcN trivial ?_ | refine u_lcC (seqL_of (by walk_at "r")) rfl ?_ | refine u_lcN (seqL_of (by walk_at "r")) ?_
  | refine u_lcC ⟨seqL_of (by walk_at "r"), seqL_of (by walk_at "r")⟩ rfl ?_ | refine u_lcN ⟨seqL_of (by walk_at "r"), seqL_of (by walk_at "r")⟩ ?_
  | refine y_lpC trivial ?_ | refine y_lpN trivial ?_ | refine y_lpC (seqL_of (by walk_at "r")) ?_ | refine y_lpN (seqL_of (by walk_at "r")) ?_)
local macro_rules | `(tactic| walk_at "a") => `(tactic| with_reducible first | refine u_andT ?_ | refine u_orT ?_ | refine u_andV ?_ | refine u_orV ?_)
local macro_rules | `(tactic| walk_at "P") => `(tactic| first
  | (with_reducible refine u_andTP ?_) | (with_reducible refine u_orTP ?_) | (with_reducible refine u_andVP ?_) | (with_reducible refine u_orVP ?_)
  | ((with_reducible apply i_andp_go); (intro _; walk_at "gp"; exact ⟨rfl, rfl⟩)) | ((with_reducible apply i_orp_go); (intro _; walk_at "gp"; exact ⟨rfl, rfl⟩)) | ((with_reducible apply i_andtp_go); (intro _; walk_at "gp"; exact ⟨rfl, rfl⟩)) | ((with_reducible apply i_ortp_go); (intro _; walk_at "gp"; exact ⟨rfl, rfl⟩)))
local macro_rules | `(tactic| walk_at "gp") => `(tactic| repeat first | walk_at "s" | walk_at "P" | walk_at "c" | walk_at "d" | walk_at "l")
local macro_rules | `(tactic| walk_at "g") => `(tactic| repeat first | walk_at "s" | walk_at "a" | walk_at "c" | walk_at "d" | walk_at "l")
local macro_rules | `(tactic| walk_at "d") => `(tactic| first | ((with_reducible apply take_R (i := 0)); (with_reducible assumption); rfl; (with_reducible assumption); (first | omega | (rfl)); (first | omega | rfl); (exact fun _ _ => se0); intro _ _ _ _ _ _ _ _) | ((with_reducible apply take_R (i := 1)); (with_reducible assumption); rfl; (with_reducible assumption); (first | omega | (rfl)); (first | omega | rfl); (exact fun _ _ => se1); intro _ _ _ _ _ _ _ _) | ((with_reducible apply take_R (i := 2)); (with_reducible assumption); rfl; (with_reducible assumption); (first | omega | (rfl)); (first | omega | rfl); (exact fun _ _ => se2); intro _ _ _ _ _ _ _ _) | ((with_reducible apply take_R (i := 3)); (with_reducible assumption); rfl; (with_reducible assumption); (first | omega | (rfl)); (first | omega | rfl); (exact fun _ _ => se3); intro _ _ _ _ _ _ _ _) | ((with_reducible apply take_R (i := 4)); (with_reducible assumption); rfl; (with_reducible assumption); (first | omega | (rfl)); (first | omega | rfl); (exact fun _ _ => se4); intro _ _ _ _ _ _ _ _) | ((with_reducible apply take_R (i := 5)); (with_reducible assumption); rfl; (with_reducible assumption); (first | omega | (rfl)); (first | omega | rfl); (exact fun _ _ => se5); intro _ _ _ _ _ _ _ _) | ((with_reducible apply take_R (i := 6)); (with_reducible assumption); rfl; (with_reducible assumption); (first | omega | (rfl)); (first | omega | rfl); (exact fun _ _ => se6); intro _ _ _ _ _ _ _ _) | ((with_reducible apply take_R (i := 7)); (with_reducible assumption); rfl; (with_reducible assumption); (first | omega | (rfl)); (first | omega | rfl); (exact fun _ _ => se7); intro _ _ _ _ _ _ _ _) | ((with_reducible apply take_R (i := 8)); (with_reducible assumption); rfl; (with_reducible assumption); (first | omega | (rfl)); (first | omega | rfl); (exact fun _ _ => se8); intro _ _ _ _ _ _ _ _) | ((with_reducible apply take_R (i := 9)); (with_reducible assumption); rfl; (with_reducible assumption); (first | omega | (rfl)); (first | omega | rfl); (exact fun _ _ => se9); intro _ _ _ _ _ _ _ _))
local macro_rules | `(tactic| walk_at "ind1") => `(tactic| first
  | with_reducible exact ie_is | with_reducible exact ie_c | with_reducible exact ie_nil | with_reducible exact ie_mB | with_reducible exact is_nx | with_reducible exact ig_nil | with_reducible exact is_rt
  | ((with_reducible apply ie_var); decide) | with_reducible apply ie_cons | with_reducible apply ie_tup | with_reducible apply ie_lst | with_reducible apply ie_G | with_reducible apply ie_b2
  | with_reducible apply ie_test | with_reducible apply ie_notT | with_reducible apply ie_notV | with_reducible apply ie_andT | with_reducible apply ie_orT | with_reducible apply ie_andV | with_reducible apply ie_orV
  | with_reducible apply ie_if | with_reducible apply ie_itL | ((with_reducible apply ig_nm); decide) | with_reducible apply ig_cons | with_reducible apply ig_tp | ((with_reducible refine ie_lc ?_ ?_ ?_ ?_ (by decide)))
  | with_reducible apply is_seq | ((with_reducible refine is_asg ?_ (by decide))) | with_reducible apply is_ret | with_reducible apply is_exp | with_reducible apply is_if | with_reducible apply ie_F)
local macro_rules | `(tactic| walk_at "ind") => `(tactic| repeat walk_at "ind1")
local macro_rules | `(tactic| walk_at "xi") => `(tactic| with_reducible first | exact xi_NoName_Came (by assumption) | exact xi_NoName_Claimed (by assumption) | exact xi_NoName_Due (by assumption) | exact xi_NoName_Early (by assumption) | exact xi_NoName_IsOn (by assumption) | exact xi_NoName_LookupError (by assumption) | exact xi_NoName_NoBounds (by assumption) | exact xi_NoName_NoClaim (by assumption) | exact xi_NoName_NoHand (by assumption) | exact xi_NoName_NoHands (by assumption) | exact xi_NoName_NoLess (by assumption) | exact xi_NoName_NoLetter (by assumption) | exact xi_NoName_NoMark (by assumption) | exact xi_NoName_NoName (by assumption) | exact xi_NoName_NoNext (by assumption) | exact xi_NoName_NoPaper (by assumption) | exact xi_NoName_NoRule (by assumption) | exact xi_NoName_NoSaying (by assumption) | exact xi_NoName_NoScript (by assumption) | exact xi_NoName_NoTries (by assumption) | exact xi_NoName_NoWire (by assumption) | exact xi_NoName_NotEmpty (by assumption) | exact xi_NoName_NotOn (by assumption) | exact xi_NoName_Owed (by assumption) | exact xi_NoName_SameWire (by assumption) | exact xi_NoName_TooMany (by assumption) | exact xi_NoName_ValueError (by assumption) | exact xi_NoName_WireError (by assumption) | exact xi_NoNext_Came (by assumption) | exact xi_NoNext_Claimed (by assumption) | exact xi_NoNext_Due (by assumption) | exact xi_NoNext_Early (by assumption) | exact xi_NoNext_IsOn (by assumption) | exact xi_NoNext_LookupError (by assumption) | exact xi_NoNext_NoBounds (by assumption) | exact xi_NoNext_NoClaim (by assumption) | exact xi_NoNext_NoHand (by assumption) | exact xi_NoNext_NoHands (by assumption) | exact xi_NoNext_NoLess (by assumption) | exact xi_NoNext_NoLetter (by assumption) | exact xi_NoNext_NoMark (by assumption) | exact xi_NoNext_NoName (by assumption) | exact xi_NoNext_NoNext (by assumption) | exact xi_NoNext_NoPaper (by assumption) | exact xi_NoNext_NoRule (by assumption) | exact xi_NoNext_NoSaying (by assumption) | exact xi_NoNext_NoScript (by assumption) | exact xi_NoNext_NoTries (by assumption) | exact xi_NoNext_NoWire (by assumption) | exact xi_NoNext_NotEmpty (by assumption) | exact xi_NoNext_NotOn (by assumption) | exact xi_NoNext_Owed (by assumption) | exact xi_NoNext_SameWire (by assumption) | exact xi_NoNext_TooMany (by assumption) | exact xi_NoNext_ValueError (by assumption) | exact xi_NoNext_WireError (by assumption))
local macro_rules | `(tactic| walk_at "ind1") => `(tactic| exact ie_exn (fun h => which_ind h))
/-! ### the law of the next names -/
section
variable {A : Ad} {ns : List Int} {bs : List Blk} {b : Nat} {x y : Int} {z : Str} {w w1 w2 : W} {h : Hv} {Q : W → Hv → Prop} {X : XH}
theorem dOf_t1 {a : Str} (c : SeqAt.shaped (.tuple [.str a]) = true) : dOf h (.tup [.str a]) = some (.tuple [.str a]) := by
  show (if SeqAt.shaped (.tuple [.str a]) = true then some (PyData.tuple [.str a]) else none) = _
  rw [if_pos c]
theorem neT1 {a : Str} (c : SeqAt.shaped (.tuple [.str a]) = true) (q : Q (.bl false) h) : eW (neM (.tup [.str a]) (.tup [.str a]) h) Q X :=
  u_neD (dOf_t1 c) (dOf_t1 c) rfl (by
    have e : PyData.eqv (.tuple [.str a]) (.tuple [.str a]) = true := by
      simp only [PyData.eqv, PyData.eqvAll, Bool.and_true]
      exact beq_self_eq_true _
    rw [e]; exact q)
theorem ne_same (a : Nx z w) (q : Q (.bl false) h) : eW (neM w w h) Q X := by
  cases a with
  | bad _ => exact neT1 (by decide +kernel) q
  | nine _ _ => exact neT1 (by decide +kernel) q
  | fig _ _ _ =>
    refine u_neS ?_
    rw [decide_eq_true rfl]; exact q
  | letter _ _ _ =>
    refine u_neS ?_
    rw [decide_eq_true rfl]; exact q
theorem bag_of (H : Rp ([(b, bagO x y)] :: bs) h) (v : BagV x y) : Bag h b := ⟨x, y, H.at 0 rfl, v.g0, v.x0, v.x1⟩
theorem rp_of {h' : Hv} (H : Rp ([(b, bagO x y)] :: bs) h) (a : Bag h' b) (g : GrX b h h') : ∃ x' y', BagV x' y' ∧ Rp ([(b, bagO x' y')] :: bs) h' := by
  obtain ⟨x', y', e, a1, a2, a3⟩ := a
  refine ⟨x', y', ⟨a1, a2, a3⟩, H.1, fun c hc => ?_⟩
  have nd := H.1
  simp only [List.flatten_cons, List.cons_append, List.nil_append, List.map_cons, List.nodup_cons] at nd
  have hc2 : c = (b, bagO x' y') ∨ c ∈ bs.flatten := by simpa using hc
  rcases hc2 with rfl | hc2
  · exact e
  · exact g _ _ (fun k => nd.1 (by rw [← k]; exact List.mem_map_of_mem hc2)) (H.2 c (by simp [hc2]))
theorem drawn_R (H : Rp ([(b, bagO x y)] :: bs) h) (v : BagV x y) (q : ∀ z x' y' h', K02.nb z = true → BagV x' y' → GrX b h h' → Rp ([(b, bagO x' y')] :: bs) h' → Q (.str z) h') : eW (F_law_drawn_name A [.ref b] h) Q X := by
  have r : wE (F_law_drawn_name A [.ref b] h) Q X := (drawn_ok (bag_of H v)).imp fun w h' ⟨z, e, _, _, e2, a, g⟩ => by
    subst e
    obtain ⟨x', y', v', H'⟩ := rp_of H a g
    exact q z x' y' h' e2 v' g H'
  with_unfolding_all exact r
theorem odd_R (H : Rp ([(b, bagO x y)] :: bs) h) (v : BagV x y) (hz : SmS 9 z) (q : ∀ w x' y' h', Ok b h' w → BagV x' y' → GrX b h h' → Rp ([(b, bagO x' y')] :: bs) h' → Q w h') : eW (F_law_odd_name A [.ref b, .str z] h) Q X := by
  have r : wE (F_law_odd_name A [.ref b, .str z] h) Q X := (odd_ok (bag_of H v) hz).imp fun w h' ⟨k, a, g⟩ => by
    obtain ⟨x', y', v', H'⟩ := rp_of H a g
    exact q w x' y' h' k v' g H'
  with_unfolding_all exact r
/-- a thing while this block stands -/
def TS (tb : Blk) (w : W) : Prop := (∃ z, w = .str z ∧ SmS 100 z) ∨ ∃ t, kitB t "str" = some false ∧ ∀ bs h, Rp (tb :: bs) h → tyW h w = some (.type t)
theorem ok1 (k : Ok b h w) : (∀ tb, TS tb w) ∨ ∃ r l, r ≠ b ∧ h[r]? = some (.lst l) ∧ ∀ tb, (r, .lst l) ∈ tb → TS tb w := by
  cases k with
  | str s => exact .inl fun tb => .inl ⟨_, rfl, s⟩
  | flat a1 a2 _ _ => exact .inl fun tb => .inr ⟨_, a2, fun bs h _ => a1 h⟩
  | @lst r l ds n e _ _ => exact .inr ⟨r, l, n, e, fun tb m => .inr ⟨"list", rfl, fun bs h H => tyW_lst (H.mem (b := tb) (by simp) m)⟩⟩
theorem ok2 {o : AO} (H : Rp [[(b, o)]] h) (k1 : Ok b h w1) (k2 : Ok b h w2) : ∃ tb, TS tb w1 ∧ TS tb w2 ∧ Rp [tb, [(b, o)]] h := by
  have hb := H.at 0 rfl
  have mk1 : ∀ r l, r ≠ b → h[r]? = some (.lst l) → Rp [[(r, .lst l)], [(b, o)]] h := fun r l n e => ⟨by simp [n], fun c hc => by
    have hc : c = (r, .lst l) ∨ c = (b, o) := by simpa using hc
    rcases hc with rfl | rfl
    · exact e
    · exact hb⟩
  rcases ok1 k1 with t1 | ⟨r1, l1, n1, e1, t1⟩
  · rcases ok1 k2 with t2 | ⟨r2, l2, n2, e2, t2⟩
    · exact ⟨[], t1 _, t2 _, by simpa [Rp] using H⟩
    · exact ⟨[(r2, .lst l2)], t1 _, t2 _ (by simp), mk1 _ _ n2 e2⟩
  · rcases ok1 k2 with t2 | ⟨r2, l2, n2, e2, t2⟩
    · exact ⟨[(r1, .lst l1)], t1 _ (by simp), t2 _, mk1 _ _ n1 e1⟩
    · by_cases hr : r1 = r2
      · subst hr
        rw [e1] at e2; cases e2
        exact ⟨[(r1, .lst l1)], t1 _ (by simp), t2 _ (by simp), mk1 _ _ n1 e1⟩
      · refine ⟨[(r1, .lst l1), (r2, .lst l2)], t1 _ (by simp), t2 _ (by simp), by simp [hr, n1, n2], fun c hc => ?_⟩
        have hc : c = (r1, .lst l1) ∨ c = (r2, .lst l2) ∨ c = (b, o) := by simpa using hc
        rcases hc with rfl | rfl | rfl
        · exact e1
        · exact e2
        · exact hb
/-- told and due of a thing are alike -/
theorem same_R {tb : Blk} {m : Hv → Rs W} (hx : Cons (tabX A)) (t : TS tb w) (H : Rp (tb :: bs) h) (hm : ∀ h1 Q', eW (F_law_due A [w] h1) Q' X → eW (m h1) Q' X) (q : ∀ h', Rp (tb :: bs) h' → Q (.bl false) h') : eW (F_law_next A [w] h) (fun v h1 => eW (m h1) (fun u h2 => eW (neM v u h2) Q X) X) X := by
  rcases t with ⟨z, rfl, s⟩ | ⟨t, hk, ht⟩
  · have hz : z.length ≤ 1000 := Nat.le_trans s.1 (by decide)
    refine lnext_s hx H hz fun v h1 n1 H1 => hm _ _ ?_
    refine ldue_s H1 hz fun u h2 n2 H2 => ?_
    obtain rfl := n1.one n2
    exact ne_same n1 (q _ H2)
  · refine lnext_n hx H (ht _ _ H) hk fun h1 H1 => hm _ _ ?_
    refine ldue_n H1 (ht _ _ H1) hk fun h2 H2 => ?_
    exact neT1 (by decide +kernel) (q _ H2)
end
end K02
namespace K02
open PySem L2 Z
local macro_rules | `(tactic| walk_at "b") => `(tactic| first | rfl | (with_reducible assumption) | (simp only [Bool.not_eq_true', Bool.not_eq_false', decide_eq_true_eq, decide_eq_false_iff_not, Bool.not_eq_true, Bool.not_eq_false, Bool.and_eq_true, Bool.or_eq_true, Bool.and_eq_false_iff, Bool.or_eq_false_iff, Bool.not_true, Bool.not_false, decide_true, decide_false, List.all_cons, List.all_nil, List.any_cons, List.any_nil, id_eq, Bool.and_true, Bool.true_and, Bool.false_or, Bool.or_false, Bool.and_self, and_true, true_and, beq_self_eq_true] <;> omega))
local macro_rules | `(tactic| walk_at "k") => `(tactic| rfl)
local macro_rules | `(tactic| walk_at "p") => `(tactic| rfl)
local macro_rules | `(tactic| walk_at "m") => `(tactic| rfl)
local macro_rules | `(tactic| walk_at "i") => `(tactic| rfl)
local macro_rules | `(tactic| walk_at "y") => `(tactic| first | exact ct0 | exact cd0 | exact ct1 | exact cd1 | exact ct2 | exact cd2 | exact ct3 | exact cd3 | exact ct4 | exact cd4 | exact ct5 | exact cd5 | exact ct6 | exact cd6)
local macro_rules | `(tactic| walk_at "t") => `(tactic| ((repeat (with_reducible apply cat_cons)); exact List.nil_append _))
local macro_rules | `(tactic| walk_at "x") => `(tactic| with_reducible first | exact ix0 | exact ix1 | exact ix2 | exact ix3 | exact ix4 | exact ix5 | exact ix6 | exact ix7 | exact ix8 | exact ix9 | exact ix10 | exact ix11 | exact iy0 | exact iy1 | exact iy2 | exact iy3 | exact iy4 | exact iy5 | exact iy6 | exact iy7 | exact iy8 | exact iy9 | exact iy10 | exact iy11 | exact se0 | exact se1 | exact se2 | exact se3 | exact se4 | exact se5 | exact se6 | exact se7 | exact se8 | exact se9 | exact se10 | exact se11 | exact ap0 | exact ap1 | exact ap2 | exact ap3 | exact ap4 | exact ap5 | exact ap6 | exact ap7 | exact ap8 | exact ap9 | exact ap10 | exact ap11)
local macro_rules | `(tactic| walk_at "r") => `(tactic| first | (with_reducible assumption) | exact Rp.at (by with_reducible assumption) 0 (by rfl) | exact Rp.at (by with_reducible assumption) 1 (by rfl) | exact Rp.at (by with_reducible assumption) 2 (by rfl) | exact Rp.at (by with_reducible assumption) 3 (by rfl) | exact Rp.at (by with_reducible assumption) 4 (by rfl) | exact Rp.at (by with_reducible assumption) 5 (by rfl) | exact Rp.at (by with_reducible assumption) 6 (by rfl) | exact Rp.at (by with_reducible assumption) 7 (by rfl) | exact Rp.at (by with_reducible assumption) 8 (by rfl) | exact Rp.at (by with_reducible assumption) 9 (by rfl) | exact Rp.at (by with_reducible assumption) 10 (by rfl) | exact Rp.at (by with_reducible assumption) 11 (by rfl) | exact Rp.at (by with_reducible assumption) 12 (by rfl))
local macro_rules | `(tactic| walk_at "c") => `(tactic| first
  | ((with_reducible apply tt_of); omega)
  | ((with_reducible apply ff_of); omega)
  | ((with_reducible apply tt_of'); omega)
  | ((with_reducible apply ff_of'); omega)
  | ((with_reducible apply tt_b); walk_at "b")
  | ((with_reducible apply ff_b); walk_at "b")
  | ((with_reducible apply tt_b'); walk_at "b")
  | ((with_reducible apply ff_b'); walk_at "b"))
local macro_rules | `(tactic| walk_at "s") => `(tactic| first
  | with_reducible refine y_seq ?_
  | with_reducible refine y_asg ?_
  | with_reducible refine y_if ?_
  | with_reducible refine y_exp ?_
  | with_reducible refine y_ret ?_
  | with_reducible refine y_nm ?_
  | with_reducible refine y_nx ?_
  | with_reducible refine y_rt ?_
  | with_reducible refine y_bk ?_
  | with_reducible refine y_ct ?_
  | with_reducible refine y_tp rfl ?_
  | with_reducible refine y_gcons ?_
  | with_reducible refine y_gnil ?_
  | with_reducible refine y_nxo ?_
  | with_reducible refine y_subM ?_
  | with_reducible refine u_par ?_
  | with_reducible refine u_b2 ?_
  | with_reducible refine u_u1 ?_
  | with_reducible refine u_c ?_
  | with_reducible refine u_nil ?_
  | with_reducible refine u_cons ?_
  | with_reducible refine u_G ?_
  | with_reducible refine u_F ?_
  | with_reducible refine u_Kw ?_
  | with_reducible refine u_tup ?_
  | with_reducible refine u_test ?_
  | with_reducible refine u_notT ?_
  | with_reducible refine u_notV ?_
  | with_reducible refine u_if ?_
  | with_reducible refine u_chainLL ?_
  | with_reducible refine u_chain ?_
  | with_reducible refine u_add ?_
  | with_reducible refine u_sub ?_
  | with_reducible refine u_lt ?_
  | with_reducible refine u_le ?_
  | with_reducible refine u_gt ?_
  | with_reducible refine u_ge ?_
  | with_reducible refine u_neg ?_
  | with_reducible refine u_abs ?_
  | with_reducible refine u_max2 ?_
  | with_reducible refine u_min2 ?_
  | with_reducible refine u_eqI ?_
  | with_reducible refine u_neI ?_
  | with_reducible refine u_eqB ?_
  | with_reducible refine u_neB ?_
  | with_reducible refine u_eqS ?_
  | with_reducible refine u_neS ?_
  | with_reducible refine u_sl ?_
  | with_reducible refine u_no ?_
  | with_reducible refine u_part ?_
  | with_reducible refine u_it ?_
  | with_reducible refine u_srcS ?_
  | with_reducible refine u_srcT ?_
  | with_reducible refine u_rg1 ?_
  | with_reducible refine u_join ?_
  | with_reducible refine u_rev ?_
  | with_reducible refine u_keys ?_
  | with_reducible refine u_zip ?_
  | with_reducible refine u_fld ?_
  | with_reducible refine y_fldR ?_
  | with_reducible refine u_makeR ?_
  | with_reducible refine u_lstR ?_
  | with_reducible refine u_dspR ?_
  | with_reducible refine u_prsN ?_
  | with_reducible refine u_prsC ?_
  | with_reducible refine u_lcR ?_
  | with_reducible refine u_mbL ?_
  | with_reducible refine u_B ?_
  | with_reducible refine u_int_b ?_
  | with_reducible refine u_int_i ?_
  | with_reducible refine u_slT ?_
  | ((with_reducible apply u_var); rfl)
  | ((with_reducible apply u_isi); (first | rfl | exact tyW_ins (by walk_at "r") | exact tyW_lst (by walk_at "r") | exact tyW_dk (by walk_at "r")); rfl; walk_at "i")
  | ((with_reducible apply u_ixA); exact seqLT_of (by walk_at "r"); walk_at "x")
  | ((with_reducible apply u_ixAT); walk_at "x")
  | ((with_reducible apply u_srcL); walk_at "r")
  | ((with_reducible apply u_slS); (with_reducible assumption))
  | ((with_reducible apply u_lenS); (with_reducible assumption))
  | ((with_reducible apply u_len); (first | rfl | exact seqLT_of (by walk_at "r")))
  | ((with_reducible apply u_mod); (first | (with_reducible assumption) | omega))
  | ((with_reducible apply u_fdiv'); omega; omega)
  | ((with_reducible apply u_mulP); omega; omega)
  | ((with_reducible apply u_mulQ); omega; omega)
  | ((with_reducible apply u_powP); omega; omega; omega; omega)
  | ((with_reducible apply u_dget); walk_at "r"; rfl; walk_at "k")
  | ((with_reducible apply u_kd); walk_at "k")
  | ((with_reducible apply u_allL); walk_at "r"; rfl)
  | ((with_reducible apply u_anyL); walk_at "r"; rfl)
  | ((with_reducible apply u_catLR); walk_at "r"; walk_at "r"; rfl; walk_at "t"; (with_reducible assumption); intro _ _ _)
  | ((with_reducible apply u_slLR); walk_at "r"; walk_at "y"; (with_reducible assumption); intro _ _ _)
  | ((with_reducible apply u_listLR); (first | rfl | exact seqLT_of (by walk_at "r")); (with_reducible assumption); intro _ _ _)
  | ((with_reducible apply setR_ok (i := 0)); (with_reducible assumption); rfl; walk_at "x"; walk_at "x"; exact se0; intro _ _)
  | ((with_reducible apply setR_ok (i := 1)); (with_reducible assumption); rfl; walk_at "x"; walk_at "x"; exact se1; intro _ _)
  | ((with_reducible apply setR_ok (i := 2)); (with_reducible assumption); rfl; walk_at "x"; walk_at "x"; exact se2; intro _ _)
  | ((with_reducible apply setR_ok (i := 3)); (with_reducible assumption); rfl; walk_at "x"; walk_at "x"; exact se3; intro _ _)
  | ((with_reducible apply setR_ok (i := 4)); (with_reducible assumption); rfl; walk_at "x"; walk_at "x"; exact se4; intro _ _)
  | ((with_reducible apply setR_ok (i := 5)); (with_reducible assumption); rfl; walk_at "x"; walk_at "x"; exact se5; intro _ _)
  | ((with_reducible apply u_appendR (i := 0)); (with_reducible assumption); rfl; rfl; walk_at "x"; exact se0; intro _ _)
  | ((with_reducible apply u_appendR (i := 1)); (with_reducible assumption); rfl; rfl; walk_at "x"; exact se1; intro _ _)
  | ((with_reducible apply u_appendR (i := 2)); (with_reducible assumption); rfl; rfl; walk_at "x"; exact se2; intro _ _)
  | ((with_reducible apply u_appendR (i := 3)); (with_reducible assumption); rfl; rfl; walk_at "x"; exact se3; intro _ _)
  | ((with_reducible apply u_appendR (i := 4)); (with_reducible assumption); rfl; rfl; walk_at "x"; exact se4; intro _ _)
  | ((with_reducible apply u_appendR (i := 5)); (with_reducible assumption); rfl; rfl; walk_at "x"; exact se5; intro _ _)
  | with_reducible refine ⟨_, _, _, rfl, rfl, rfl, rfl, ?_⟩
  | with_reducible refine ⟨_, rfl, ?_⟩
  | ((with_reducible apply lst_go); rfl; (with_reducible assumption); intro _ _ _)
  | ((with_reducible apply make_go'); rfl; rfl; (with_reducible assumption); intro _ _ _)
  | ((with_reducible apply kwd_go); rfl; rfl)
  | ((with_reducible apply len_go); rfl)
  | ((with_reducible apply tup_go); rfl)
  | ((with_reducible apply fld_go); walk_at "r"; (first | exact List.mem_singleton_self _ | simp); walk_at "k")
  | ((with_reducible apply mb_go); walk_at "r")
  | ((with_reducible apply zip_go); walk_at "r"; walk_at "r")
  | ((with_reducible apply dsp_go); (with_reducible assumption); rfl; walk_at "m"; intro _ _)
  | ((with_reducible apply key_go); rfl)
  | ((with_reducible apply lcc_go (i := 0)); (with_reducible assumption); rfl; rfl; walk_at "x"; exact se0; intro _ _)
  | ((with_reducible apply lcc_go (i := 1)); (with_reducible assumption); rfl; rfl; walk_at "x"; exact se1; intro _ _)
  | ((with_reducible apply lcc_go (i := 2)); (with_reducible assumption); rfl; rfl; walk_at "x"; exact se2; intro _ _)
  | ((with_reducible apply lcc_go (i := 3)); (with_reducible assumption); rfl; rfl; walk_at "x"; exact se3; intro _ _)
  | ((with_reducible apply lcc_go (i := 4)); (with_reducible assumption); rfl; rfl; walk_at "x"; exact se4; intro _ _)
  | ((with_reducible apply lcc_go (i := 5)); (with_reducible assumption); rfl; rfl; walk_at "x"; exact se5; intro _ _)
  | ((with_reducible apply xfld_go (i := 0)); (with_reducible assumption); rfl; (first | exact List.mem_singleton_self _ | simp); rfl; walk_at "p"; exact se0; intro _ _)
  | ((with_reducible apply xfld_go (i := 1)); (with_reducible assumption); rfl; (first | exact List.mem_singleton_self _ | simp); rfl; walk_at "p"; exact se1; intro _ _)
  | ((with_reducible apply xfld_go (i := 2)); (with_reducible assumption); rfl; (first | exact List.mem_singleton_self _ | simp); rfl; walk_at "p"; exact se2; intro _ _)
  | ((with_reducible apply xfld_go (i := 3)); (with_reducible assumption); rfl; (first | exact List.mem_singleton_self _ | simp); rfl; walk_at "p"; exact se3; intro _ _)
  | ((with_reducible apply xfld_go (i := 4)); (with_reducible assumption); rfl; (first | exact List.mem_singleton_self _ | simp); rfl; walk_at "p"; exact se4; intro _ _)
  | ((with_reducible apply xfld_go (i := 5)); (with_reducible assumption); rfl; (first | exact List.mem_singleton_self _ | simp); rfl; walk_at "p"; exact se5; intro _ _)
  | ((with_reducible apply new_go); (with_reducible assumption); intro _ _ _))
local macro_rules | `(tactic| walk_at "l") => `(tactic| first
  | refine u_lcC trivial rfl ?_ | refine u_lcN trivial ?_ | refine u_lcC (seqL_of (by walk_at "r")) rfl ?_ | refine u_lcN (seqL_of (by walk_at "r")) ?_
  | refine u_lcC ⟨seqL_of (by walk_at "r"), seqL_of (by walk_at "r")⟩ rfl ?_ | refine u_lcN ⟨seqL_of (by walk_at "r"), seqL_of (by walk_at "r")⟩ ?_
  | refine y_lpC trivial ?_ | refine y_lpN trivial ?_ | refine y_lpC (seqL_of (by walk_at "r")) ?_ | refine y_lpN (seqL_of (by walk_at "r")) ?_)
local macro_rules | `(tactic| walk_at "a") => `(tactic| with_reducible first | refine u_andT ?_ | refine u_orT ?_ | refine u_andV ?_ | refine u_orV ?_)
local macro_rules | `(tactic| walk_at "P") => `(tactic| first
  | (with_reducible refine u_andTP ?_) | (with_reducible refine u_orTP ?_) | (with_reducible refine u_andVP ?_) | (with_reducible refine u_orVP ?_)
  | ((with_reducible apply i_andp_go); (intro _; walk_at "gp"; exact ⟨rfl, rfl⟩)) | ((with_reducible apply i_orp_go); (intro _; walk_at "gp"; exact ⟨rfl, rfl⟩)) | ((with_reducible apply i_andtp_go); (intro _; walk_at "gp"; exact ⟨rfl, rfl⟩)) | ((with_reducible apply i_ortp_go); (intro _; walk_at "gp"; exact ⟨rfl, rfl⟩)))
local macro_rules | `(tactic| walk_at "gp") => `(tactic| repeat first | walk_at "s" | walk_at "P" | walk_at "c" | walk_at "d" | walk_at "l")
local macro_rules | `(tactic| walk_at "g") => `(tactic| repeat first | walk_at "s" | walk_at "a" | walk_at "c" | walk_at "d" | walk_at "l")
local macro_rules | `(tactic| walk_at "d") => `(tactic| first | ((with_reducible apply take_R (i := 0)); (with_reducible assumption); rfl; (with_reducible assumption); (first | omega | (rfl)); (first | omega | rfl); (exact fun _ _ => se0); intro _ _ _ _ _ _ _ _) | ((with_reducible apply take_R (i := 1)); (with_reducible assumption); rfl; (with_reducible assumption); (first | omega | (rfl)); (first | omega | rfl); (exact fun _ _ => se1); intro _ _ _ _ _ _ _ _) | ((with_reducible apply take_R (i := 2)); (with_reducible assumption); rfl; (with_reducible assumption); (first | omega | (rfl)); (first | omega | rfl); (exact fun _ _ => se2); intro _ _ _ _ _ _ _ _) | ((with_reducible apply take_R (i := 3)); (with_reducible assumption); rfl; (with_reducible assumption); (first | omega | (rfl)); (first | omega | rfl); (exact fun _ _ => se3); intro _ _ _ _ _ _ _ _) | ((with_reducible apply take_R (i := 4)); (with_reducible assumption); rfl; (with_reducible assumption); (first | omega | (rfl)); (first | omega | rfl); (exact fun _ _ => se4); intro _ _ _ _ _ _ _ _) | ((with_reducible apply take_R (i := 5)); (with_reducible assumption); rfl; (with_reducible assumption); (first | omega | (rfl)); (first | omega | rfl); (exact fun _ _ => se5); intro _ _ _ _ _ _ _ _) | ((with_reducible apply take_R (i := 6)); (with_reducible assumption); rfl; (with_reducible assumption); (first | omega | (rfl)); (first | omega | rfl); (exact fun _ _ => se6); intro _ _ _ _ _ _ _ _) | ((with_reducible apply take_R (i := 7)); (with_reducible assumption); rfl; (with_reducible assumption); (first | omega | (rfl)); (first | omega | rfl); (exact fun _ _ => se7); intro _ _ _ _ _ _ _ _) | ((with_reducible apply take_R (i := 8)); (with_reducible assumption); rfl; (with_reducible assumption); (first | omega | (rfl)); (first | omega | rfl); (exact fun _ _ => se8); intro _ _ _ _ _ _ _ _) | ((with_reducible apply take_R (i := 9)); (with_reducible assumption); rfl; (with_reducible assumption); (first | omega | (rfl)); (first | omega | rfl); (exact fun _ _ => se9); intro _ _ _ _ _ _ _ _))
local macro_rules | `(tactic| walk_at "ind1") => `(tactic| first
  | with_reducible exact ie_is | with_reducible exact ie_c | with_reducible exact ie_nil | with_reducible exact ie_mB | with_reducible exact is_nx | with_reducible exact ig_nil | with_reducible exact is_rt
  | ((with_reducible apply ie_var); decide) | with_reducible apply ie_cons | with_reducible apply ie_tup | with_reducible apply ie_lst | with_reducible apply ie_G | with_reducible apply ie_b2
  | with_reducible apply ie_test | with_reducible apply ie_notT | with_reducible apply ie_notV | with_reducible apply ie_andT | with_reducible apply ie_orT | with_reducible apply ie_andV | with_reducible apply ie_orV
  | with_reducible apply ie_if | with_reducible apply ie_itL | ((with_reducible apply ig_nm); decide) | with_reducible apply ig_cons | with_reducible apply ig_tp | ((with_reducible refine ie_lc ?_ ?_ ?_ ?_ (by decide)))
  | with_reducible apply is_seq | ((with_reducible refine is_asg ?_ (by decide))) | with_reducible apply is_ret | with_reducible apply is_exp | with_reducible apply is_if | with_reducible apply ie_F)
local macro_rules | `(tactic| walk_at "ind") => `(tactic| repeat walk_at "ind1")
local macro_rules | `(tactic| walk_at "xi") => `(tactic| with_reducible first | exact xi_NoName_Came (by assumption) | exact xi_NoName_Claimed (by assumption) | exact xi_NoName_Due (by assumption) | exact xi_NoName_Early (by assumption) | exact xi_NoName_IsOn (by assumption) | exact xi_NoName_LookupError (by assumption) | exact xi_NoName_NoBounds (by assumption) | exact xi_NoName_NoClaim (by assumption) | exact xi_NoName_NoHand (by assumption) | exact xi_NoName_NoHands (by assumption) | exact xi_NoName_NoLess (by assumption) | exact xi_NoName_NoLetter (by assumption) | exact xi_NoName_NoMark (by assumption) | exact xi_NoName_NoName (by assumption) | exact xi_NoName_NoNext (by assumption) | exact xi_NoName_NoPaper (by assumption) | exact xi_NoName_NoRule (by assumption) | exact xi_NoName_NoSaying (by assumption) | exact xi_NoName_NoScript (by assumption) | exact xi_NoName_NoTries (by assumption) | exact xi_NoName_NoWire (by assumption) | exact xi_NoName_NotEmpty (by assumption) | exact xi_NoName_NotOn (by assumption) | exact xi_NoName_Owed (by assumption) | exact xi_NoName_SameWire (by assumption) | exact xi_NoName_TooMany (by assumption) | exact xi_NoName_ValueError (by assumption) | exact xi_NoName_WireError (by assumption) | exact xi_NoNext_Came (by assumption) | exact xi_NoNext_Claimed (by assumption) | exact xi_NoNext_Due (by assumption) | exact xi_NoNext_Early (by assumption) | exact xi_NoNext_IsOn (by assumption) | exact xi_NoNext_LookupError (by assumption) | exact xi_NoNext_NoBounds (by assumption) | exact xi_NoNext_NoClaim (by assumption) | exact xi_NoNext_NoHand (by assumption) | exact xi_NoNext_NoHands (by assumption) | exact xi_NoNext_NoLess (by assumption) | exact xi_NoNext_NoLetter (by assumption) | exact xi_NoNext_NoMark (by assumption) | exact xi_NoNext_NoName (by assumption) | exact xi_NoNext_NoNext (by assumption) | exact xi_NoNext_NoPaper (by assumption) | exact xi_NoNext_NoRule (by assumption) | exact xi_NoNext_NoSaying (by assumption) | exact xi_NoNext_NoScript (by assumption) | exact xi_NoNext_NoTries (by assumption) | exact xi_NoNext_NoWire (by assumption) | exact xi_NoNext_NotEmpty (by assumption) | exact xi_NoNext_NotOn (by assumption) | exact xi_NoNext_Owed (by assumption) | exact xi_NoNext_SameWire (by assumption) | exact xi_NoNext_TooMany (by assumption) | exact xi_NoNext_ValueError (by assumption) | exact xi_NoNext_WireError (by assumption))
local macro_rules | `(tactic| walk_at "ind1") => `(tactic| exact ie_exn (fun h => which_ind h))
/-! ### the law -/
section
variable {A : Ad} {ns : List Int}
theorem law_ok (hx : Cons (tabX A)) (ns : List Int) (hns : ns.length ≤ 63) : WinF (F_law A) ns := by
  suffices H : eW (F_law A [.cl (ns.map W.int)] []) (fun w _ => w = .bl true) nX by
    obtain ⟨w, h', e, q⟩ := i_wE_some H
    exact ⟨h', by rw [e, q]⟩
  unfold F_law
  refine u_runB ?_
  show sW (m_law A [some (.cl (ns.map W.int)), none, none, none, none, none, none, none] []) _ _ _ _ _
  unfold m_law
  walk_at "g"
  refine y_forI (fun i e h => ∃ o1 o2 o3 o4 o5 o6 o7, e = [some (.cl (ns.map W.int)), o1, o2, o3, o4, o5, o6, o7]) ?_
  walk_at "g"
  generalize hJ : (if (if (((ns.map W.int).length : Nat) : Int) < 4 then (((ns.map W.int).length : Nat) : Int) else 4) > 1 then (if (((ns.map W.int).length : Nat) : Int) < 4 then (((ns.map W.int).length : Nat) : Int) else 4) else 1) = J
  have hJ4 : J ≤ 4 := by rw [← hJ]; split <;> (try split) <;> omega
  have hJ1 : 1 ≤ J := by rw [← hJ]; split <;> (try split) <;> omega
  refine ⟨⟨by omega, by omega⟩, ⟨_, _, _, _, _, _, _, rfl⟩, ?_, ?_⟩
  case refine_2 =>
    rintro e h ⟨o1, o2, o3, o4, o5, o6, o7, rfl⟩
    walk_at "g"
    rfl
  rintro i e h hi ⟨o1, o2, o3, o4, o5, o6, o7, rfl⟩
  have H0 : Rp [] h := Rp.nil
  walk_at "g"
  refine bag_R H0 (by omega) ?_
  intro b g0 x0 h1 vb H1
  walk_at "g"
  refine y_forI (fun k e h => ∃ x y o3 o4 o5 o6 o7, BagV x y ∧ Rp [[(b, bagO x y)]] h ∧ e = [some (.cl (ns.map W.int)), some (.int i), some (.ref b), o3, o4, o5, o6, o7]) ?_
  walk_at "g"
  refine ⟨by decide, ⟨_, _, _, _, _, _, _, vb, H1, rfl⟩, ?_, ?_⟩
  case refine_2 =>
    rintro e h ⟨x, y, o3, o4, o5, o6, o7, v, H, rfl⟩
    exact ⟨_, _, _, _, _, _, _, rfl⟩
  rintro k e h hk ⟨x, y, o3, o4, o5, o6, o7, v, H, rfl⟩
  walk_at "g"
  refine drawn_R H v fun z x2 y2 h2 nz v2 _ H2 => ?_
  walk_at "g"
  refine i_wS_imp (N := fun e h => ∃ (z : Str) (cs : List Nat) (o5 o6 : Option W), nb z = true ∧ z.cps.toList = cs ++ [57] ∧ Rp [[(b, bagO x2 y2)]] h ∧ e = [some (.cl (ns.map W.int)), some (.int i), some (.ref b), some (.int k), some (.str z), o5, o6, o7]) ?_ ?_ (fun _ _ q => q) (fun _ _ q => q) (fun _ _ q => q) (fun _ _ q => q)
  · refine y_forI (fun (j : Nat) e h => ∃ (z : Str) (cs : List Nat) (c : Nat) (o5 o6 : Option W), nb z = true ∧ z.cps.toList = cs ++ [c] ∧ j ≤ rk c ∧ Rp [[(b, bagO x2 y2)]] h ∧ e = [some (.cl (ns.map W.int)), some (.int i), some (.ref b), some (.int k), some (.str z), o5, o6, o7]) ?_
    walk_at "g"
    obtain ⟨cs, c, ez, _, _⟩ := nb_inv nz
    refine ⟨by decide, ⟨_, _, _, _, _, nz, ez, Nat.zero_le _, H2, rfl⟩, ?_, ?_⟩
    case refine_2 =>
      rintro e h ⟨z, cs, c, o5, o6, nz, ez, hj, H, rfl⟩
      exfalso
      have : rk c ≤ 8 := by unfold rk; split <;> omega
      have hj : 10 ≤ rk c := hj
      omega
    clear nz ez H2
    rintro j e h hj ⟨z, cs, c, o5, o6, nz, ez, hr, H, rfl⟩
    have hz : z.length ≤ 1000 := Nat.le_trans (nb_len nz) (by decide)
    walk_at "g"
    refine lnext_s hx H hz fun v h3 n3 H3 => ?_
    walk_at "g"
    refine ldue_s H3 hz fun u h4 n4 H4 => ?_
    obtain rfl := n3.one n4
    refine ne_same n3 ?_
    walk_at "g"
    refine next_R (cs := []) (c := 98) H4 (by decide) (by decide +kernel) (by decide +kernel) (fun e => by omega) (fun e => by omega) (fun _ h5 H5 => ?_)
    repeat walk_at "s"
    rw [(by decide +kernel : (!decide (("b" : Str) ++ "2" = "b2")) = false)]
    walk_at "g"
    refine lnext_s hx H5 hz fun u h6 n6 H6 => ?_
    obtain rfl := n3.one n6
    walk_at "g"
    refine ne_same n3 ?_
    have key : (v = .tup [.str "NoNext"] ∧ ∃ cs', z.cps.toList = cs' ++ [57]) ∨ ∃ y, v = .str y ∧ nb y = true ∧ ∃ ds d, y.cps.toList = ds ++ [d] ∧ rk d = rk c + 1 := by
      cases n3 with
      | bad e' => rw [nz] at e'; cases e'
      | nine _ e2 => exact .inl ⟨rfl, _, e2⟩
      | fig a b r => exact .inr ⟨_, rfl, Nx.nb nz ez (.fig a b r)⟩
      | letter a b r => exact .inr ⟨_, rfl, Nx.nb nz ez (.letter a b r)⟩
    clear n3 n4 n6 H3 H4 H5
    rcases key with ⟨rfl, cs', e57⟩ | ⟨y', rfl, ny, ds, d, ey, er⟩
    · walk_at "g"
      exact ⟨z, cs', _, _, nz, e57, H6, rfl⟩
    · walk_at "g"
      refine isn_e H6 (Nat.le_trans (nb_len ny) (by decide)) fun h7 H7 => ?_
      rw [ny]
      walk_at "g"
      exact ⟨y', ds, d, _, _, ny, ey, by omega, H7, rfl⟩
  · rintro e h ⟨z, cs, o5, o6, nz, ez, H, rfl⟩
    have hz : z.length ≤ 1000 := Nat.le_trans (nb_len nz) (by decide)
    walk_at "g"
    refine lnext_s hx H hz fun v h3 n3 H3 => ?_
    obtain rfl := n3.one (.nine nz ez)
    walk_at "g"
    refine neT1 (by decide +kernel) ?_
    walk_at "g"
    refine y_forU ?_
    walk_at "g"
    refine odd_R H3 v2 (nb_sm nz) fun w1 x4 y4 h4 k1 v4 _ H4 => ?_
    walk_at "g"
    refine drawn_R H4 v4 fun z2 x5 y5 h5 nz2 v5 g5 H5 => ?_
    walk_at "g"
    refine odd_R H5 v5 (nb_sm nz2) fun w2 x6 y6 h6 k2 v6 g6 H6 => ?_
    obtain ⟨tb, t1, t2, H7⟩ := ok2 H6 ((k1.mono g5).mono g6) k2
    clear H H0 H1 H2 H3 H4 H5 H6
    walk_at "g"
    rename_i L h8 H8
    refine same_R hx t1 (H8.front 1 rfl) (fun h1 Q' a => u_F (u_cons (u_var rfl (u_nil ⟨rfl, a⟩)))) fun h9 H9 => ?_
    replace H9 : Rp [tb, [(L, .lst [w1, w2])], [(b, bagO x6 y6)]] h9 := H9
    walk_at "g"
    refine same_R hx t2 H9 (fun h1 Q' a => u_F (u_cons (u_var rfl (u_nil ⟨rfl, a⟩)))) fun h10 H10 => ?_
    walk_at "g"
    exact ⟨_, _, _, _, _, _, _, v6, H10.tl.tl, rfl⟩
end
end K02
theorem PySem.Challenge.cw_wirenames_k02_next_names_holds : PySem.Challenge.rw_wirenames_k02_next_names.Holds := by
  exact K02.fin fun A hc hx ns h => K02.law_ok hx ns h
