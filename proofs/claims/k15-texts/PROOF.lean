import PyProof.Rows.All
import Wide.All
import OpenK.AllK
import Wide.FinOn
import HandS.ForSpec
import HandS.ForMost
import HandS.IsInst
import HandS.TupAny
import HandS.Zip
import HandS.Style
import HandS.Wide
import HandS.Lambda
import PyProof.Rows.IntBool
import HandS.Deep
import KE.SortData
import HandS.ExcCtx
import HandS.HotCalls
import HandS.ExcIs
import HandS.Nested
import HandS.TupMul
import HandS.SortInts
import HandS.RevTup
import KE.KRevSl
import HandS.Defaults
import HandS.Head0
import HandS.Head1
import HandS.Head2
import HandS.HeadEnd
import HandS.HeadHook1
import HandS.HeadHook2
import HandS.HeadHook3
import HandS.HeadHook4
import HandS.HeadWalk
import HandS.EndTab
import HandS.NestedK
import KE.GoesEnum
import HandS.TupSets
import KE.KDictCopyH
import HandS.Conv
import KE.DatumOrd
import KE.SortKeyHeap
import HandS.Text
import HandS.FStr
import HandS.Iter
import PySem.Challenge.RW_anyaim_k15_texts_of_halls
set_option Elab.async false
set_option linter.all false
set_option maxRecDepth 100000
section
set_option maxHeartbeats 4000000
/-! Pure data over the hand layer: values D, a store of lists that change, programs as functions. -/
namespace Z
open PySem PySem.Spec PyProof.Rows L2

/-- values told by what they are worth; cell n: the n-th changing object; fn: a def of the module -/
inductive D where
  | none | bool (b : Bool) | int (i : Int) | str (s : Str) | list (xs : List D) | tuple (xs : List D) | cell (n : Nat) | fn (x : Str) | frz (xs : List D) | adr (a : Addr)
deriving Inhabited

mutual
/-- nothing that changes is within -/
def fixD : D → Bool
  | .list xs => fixDs xs
  | .tuple xs => fixDs xs
  | .frz xs => fixDs xs
  | .cell _ => false
  | _ => true
def fixDs : List D → Bool
  | [] => true
  | x :: xs => fixD x && fixDs xs
end
inductive Cell where
  | lst (xs : List D)
abbrev Store := List Cell

inductive Res (α : Type) where
  | ok (a : α) (S : Store) | err (c : Str) (S : Store) | no
def M (α : Type) := Store → Res α
@[reducible] def M.bind' {α β : Type} (m : M α) (f : α → M β) : M β := fun S => match m S with
  | .ok a S' => f a S'
  | .err c S' => .err c S'
  | .no => .no
instance : Monad M where
  pure a := fun S => .ok a S
  bind := M.bind'
def no {α : Type} : M α := fun _ => .no
def raise {α : Type} (c : Str) : M α := fun S => .err c S
def ofO {α : Type} : Option α → M α
  | some a => pure a
  | .none => no
@[simp] theorem pure_ap {α : Type} (a : α) (S : Store) : (pure a : M α) S = .ok a S := rfl
@[simp] theorem no_ap {α : Type} (S : Store) : (no : M α) S = .no := rfl
@[simp] theorem raise_ap {α : Type} (c : Str) (S : Store) : (raise c : M α) S = .err c S := rfl
@[simp] theorem pure_bd {α β : Type} (a : α) (f : α → M β) : (pure a >>= f) = f a := rfl
@[simp] theorem no_bd {α β : Type} (f : α → M β) : ((no : M α) >>= f) = no := rfl
@[simp] theorem raise_bd {α β : Type} (c : Str) (f : α → M β) : ((raise c : M α) >>= f) = raise c := rfl
theorem bd_ap {α β : Type} (m : M α) (f : α → M β) (S : Store) : (m >>= f) S = match m S with
  | .ok a S' => f a S'
  | .err c S' => .err c S'
  | .no => .no := rfl
@[simp] theorem bd_bd {α β γ : Type} (m : M α) (f : α → M β) (g : β → M γ) : ((m >>= f) >>= g) = (m >>= fun a => f a >>= g) := by
  funext S
  simp only [bd_ap]
  cases m S <;> rfl
@[simp] theorem bd_pure {α : Type} (m : M α) : (m >>= fun a => pure a) = m := by
  funext S
  simp only [bd_ap]
  cases m S <;> rfl
@[simp] theorem ofO_some {α : Type} (a : α) : ofO (some a) = pure a := rfl
@[simp] theorem ofO_none {α : Type} : ofO (.none : Option α) = no := rfl
theorem bd_if {α β : Type} (c : Prop) [Decidable c] (a b : M α) (f : α → M β) : ((if c then a else b) >>= f) = if c then a >>= f else b >>= f := by
  split <;> rfl

/-! ### the heap without the cells and the tables of code -/
def noTbl : HO → Bool
  | .tbl _ => false
  | _ => true
theorem noTbl_of {o : HO} (h : ∀ ps, o ≠ .tbl ps) : noTbl o = true := by
  cases o <;> first | rfl | exact absurd rfl (h _)
theorem noTbl_ne {o : HO} (h : noTbl o = true) : ∀ ps, o ≠ .tbl ps := fun ps e => by
  subst e
  cases h
/-- what is owned: the cells, and lists that are being made -/
structure Ow where
  cs : List Addr
  pv : List Addr
def Ow.add (O : Ow) (p : Addr) : Ow := ⟨O.cs ++ [p], O.pv⟩
def hide (O : Ow) (H : Hp) : Hp := fun a => if a ∈ O.cs ∨ a ∈ O.pv then Option.none else (H a).bind fun o => if noTbl o = true then some o else Option.none
theorem hide_le {O : Ow} {H : Hp} {a : Addr} {o : HO} (h : hide O H a = some o) : ¬ (a ∈ O.cs ∨ a ∈ O.pv) ∧ H a = some o ∧ noTbl o = true := by
  unfold hide at h
  split at h
  · cases h
  · cases e : H a with
    | none => rw [e] at h; cases h
    | some u =>
      rw [e] at h
      simp only [Option.bind_some] at h
      split at h
      · cases h
        exact ⟨by assumption, rfl, by assumption⟩
      · cases h
theorem hide_of {O : Ow} {H : Hp} {a : Addr} {o : HO} (n : ¬ (a ∈ O.cs ∨ a ∈ O.pv)) (h : H a = some o) (t : noTbl o = true := by rfl) : hide O H a = some o := by
  unfold hide
  rw [if_neg n, h]
  simp [t]
structure Le (O : Ow) (H : Hp) (O' : Ow) (H' : Hp) : Prop where
  pre : ∃ r, O'.cs = O.cs ++ r
  pv : O'.pv = O.pv
  same : Same (hide O H) (hide O' H')
  keep : ∀ p ∈ O.pv, ∀ vs, H p = some (.lst vs) → H' p = some (.lst vs)
/-- what values lean on -/
structure Lw (O : Ow) (H : Hp) (O' : Ow) (H' : Hp) : Prop where
  pre : ∃ r, O'.cs = O.cs ++ r
  same : Same (hide O H) (hide O' H')
theorem Le.w {O O' : Ow} {H H' : Hp} (l : Le O H O' H') : Lw O H O' H' := ⟨l.pre, l.same⟩
theorem Le.refl {O : Ow} {H : Hp} : Le O H O H := ⟨⟨[], by simp⟩, rfl, Same.refl _, fun _ _ _ h => h⟩
theorem Le.trans {O O1 O2 : Ow} {H H1 H2 : Hp} (a : Le O H O1 H1) (b : Le O1 H1 O2 H2) : Le O H O2 H2 := by
  obtain ⟨⟨r, e⟩, p, s, k⟩ := a
  obtain ⟨⟨r', e'⟩, p', s', k'⟩ := b
  exact ⟨⟨r ++ r', by rw [e', e]; simp⟩, p'.trans p, s.trans s', fun q hq vs h => k' q (by rw [p]; exact hq) vs (k q hq vs h)⟩
/-- the same cells, more objects, the tables longer -/
theorem Le.ext {O : Ow} {H H' : Hp} (s : LamX.ExtN H H') : Le O H O H' := ⟨⟨[], by simp⟩, rfl, fun a o h => by
  obtain ⟨n, h, t⟩ := hide_le h
  exact hide_of n (s _ _ h (noTbl_ne t)) t, fun p _ vs h => s _ _ h (by intro ps z; cases z)⟩
theorem Le.same' {O : Ow} {H H' : Hp} (s : Same H H') : Le O H O H' := Le.ext (LamX.ExtN.of s)
theorem same_upd {H : Hp} {p : Addr} {o : HO} (h : H p = Option.none) : Same H (upd H p o) := fun b x e => by
  rw [upd_ne (ne_of_none e h)]
  exact e
theorem Le.new {O : Ow} {H : Hp} {p : Addr} {o : HO} (h : H p = Option.none) : Le O H O (upd H p o) := Le.same' (same_upd h)
/-- a cell is written -/
theorem Le.put {O : Ow} {H : Hp} {a : Addr} {o : HO} (h : a ∈ O.cs) (n : a ∉ O.pv) : Le O H O (upd H a o) := ⟨⟨[], by simp⟩, rfl, fun b x e => by
  obtain ⟨m, e, t⟩ := hide_le e
  refine hide_of m ?_ t
  rw [upd_ne (fun z => m (.inl (by rw [z]; exact h)))]
  exact e, fun p hp vs e => by
    rw [upd_ne (fun z => n (by rw [← z]; exact hp))]
    exact e⟩
/-- a new cell -/
theorem Le.grow {O : Ow} {H : Hp} {p : Addr} {o : HO} (h : H p = Option.none) : Le O H (O.add p) (upd H p o) := ⟨⟨[p], rfl⟩, rfl, fun b x e => by
  obtain ⟨n, e, t⟩ := hide_le e
  have ne := ne_of_none e h
  refine hide_of ?_ ?_ t
  · rintro (z | z)
    · rcases List.mem_append.mp z with z | z
      · exact n (.inl z)
      · exact ne (by simpa using z)
    · exact n (.inr z)
  · rw [upd_ne ne]
    exact e, fun q _ vs e => by
      rw [upd_ne (ne_of_none e h)]
      exact e⟩

/-! ### what a value is worth -/
section
variable (K : PySem.W.Frag) (mg : Str → Option Value)
mutual
inductive Rp (O : List Addr) (G : Hp) : V → D → Prop
  | non : Rp O G .non .none
  | bl (b : Bool) : Rp O G (.bl b) (.bool b)
  | int (i : Int) : Rp O G (.int i) (.int i)
  | str (x : Str) : Rp O G (.str x) (.str x)
  | lst {a : Addr} {xs : List V} {ds : List D} : G a = some (.lst xs) → Rps O G xs ds → Rp O G (.ref a) (.list ds)
  | frz {a : Addr} {xs : List V} {ds : List D} : SqL K G a xs → Rps O G xs ds → Rp O G (.ref a) (.frz ds)
  | tup {a : Addr} {xs : List V} {ds : List D} : SqT K G a xs → Rps O G xs ds → Rp O G (.ref a) (.tuple ds)
  | cell {a : Addr} {n : Nat} : O[n]? = some a → Rp O G (.ref a) (.cell n)
  | fn {f : Addr} {x : Str} : mg x = some (.ref f) → Rp O G (.ref f) (.fn x)
  | adr (a : Addr) : Rp O G (.ref a) (.adr a)
inductive Rps (O : List Addr) (G : Hp) : List V → List D → Prop
  | nil : Rps O G [] []
  | cons {v : V} {vs : List V} {d : D} {ds : List D} : Rp O G v d → Rps O G vs ds → Rps O G (v :: vs) (d :: ds)
end
end
section
variable {K : PySem.W.Frag} {mg : Str → Option Value} {O O' : List Addr} {G G' : Hp}
theorem Same.seqT {H H' : Hp} {a : Addr} {xs : List V} (e : Same H H') (h : SqT K H a xs) : SqT K H' a xs := by
  rcases h with (h | ⟨o, h⟩) | h
  · exact .inl (.inl (e _ _ h))
  · exact .inl (.inr ⟨o, e _ _ h⟩)
  · exact .inr h
theorem pre_get {r : List Addr} {n : Nat} {a : Addr} (h : O[n]? = some a) : (O ++ r)[n]? = some a := by
  have := (List.getElem?_eq_some_iff.mp h).1
  rw [List.getElem?_append_left this]
  exact h
mutual
theorem Rp.mono (p : ∃ r, O' = O ++ r) (s : Same G G') : ∀ {d : D} {v : V}, Rp K mg O G v d → Rp K mg O' G' v d
  | _, _, .non => .non
  | _, _, .bl b => .bl b
  | _, _, .int i => .int i
  | _, _, .str x => .str x
  | _, _, .lst h t => .lst (s _ _ h) (Rps.mono p s t)
  | _, _, .frz h t => .frz (s.seq h) (Rps.mono p s t)
  | _, _, .tup h t => .tup (Same.seqT s h) (Rps.mono p s t)
  | _, _, .cell h => .cell (by obtain ⟨r, rfl⟩ := p; exact pre_get h)
  | _, _, .fn h => .fn h
  | _, _, .adr a => .adr a
theorem Rps.mono (p : ∃ r, O' = O ++ r) (s : Same G G') : ∀ {ds : List D} {vs : List V}, Rps K mg O G vs ds → Rps K mg O' G' vs ds
  | _, _, .nil => .nil
  | _, _, .cons h t => .cons (Rp.mono p s h) (Rps.mono p s t)
end
theorem Rps.length : ∀ {ds : List D} {vs : List V}, Rps K mg O G vs ds → vs.length = ds.length
  | _, _, .nil => rfl
  | _, _, .cons _ t => by simp [Rps.length t]
theorem Rps.get : ∀ {ds : List D} {vs : List V} {i : Nat} {d : D}, Rps K mg O G vs ds → ds[i]? = some d → ∃ v, vs[i]? = some v ∧ Rp K mg O G v d
  | _, _, _, _, .nil, e => by simp at e
  | _, _, 0, _, .cons r _, e => by simp at e; subst e; exact ⟨_, rfl, r⟩
  | _, _, i + 1, d, .cons _ t, e => by
    obtain ⟨u, h1, h2⟩ := Rps.get (i := i) (d := d) t (by simpa using e)
    exact ⟨u, by simpa using h1, h2⟩
theorem Rps.app : ∀ {ds es : List D} {vs us : List V}, Rps K mg O G vs ds → Rps K mg O G us es → Rps K mg O G (vs ++ us) (ds ++ es)
  | _, _, _, _, .nil, s => s
  | _, _, _, _, .cons r t, s => .cons r (Rps.app t s)
theorem Rps.take : ∀ {ds : List D} {vs : List V} (n : Nat), Rps K mg O G vs ds → Rps K mg O G (vs.take n) (ds.take n)
  | _, _, 0, _ => .nil
  | _, _, _ + 1, .nil => .nil
  | _, _, n + 1, .cons r t => .cons r (Rps.take n t)
theorem Rps.drop : ∀ {ds : List D} {vs : List V} (n : Nat), Rps K mg O G vs ds → Rps K mg O G (vs.drop n) (ds.drop n)
  | _, _, 0, r => r
  | _, _, _ + 1, .nil => .nil
  | _, _, n + 1, .cons _ t => Rps.drop n t
theorem Rps.rev : ∀ {ds : List D} {vs : List V}, Rps K mg O G vs ds → Rps K mg O G vs.reverse ds.reverse
  | _, _, .nil => .nil
  | _, _, .cons r t => by
    simp only [List.reverse_cons]
    exact Rps.app (Rps.rev t) (.cons r .nil)
theorem Rps.erase : ∀ {ds : List D} {vs : List V} (i : Nat), Rps K mg O G vs ds → Rps K mg O G (vs.eraseIdx i) (ds.eraseIdx i)
  | _, _, _, .nil => .nil
  | _, _, 0, .cons _ t => t
  | _, _, i + 1, .cons r t => .cons r (Rps.erase i t)
theorem Rps.setI {v : V} {d : D} (h : Rp K mg O G v d) : ∀ {ds : List D} {vs : List V} (i : Nat), Rps K mg O G vs ds → Rps K mg O G (vs.set i v) (ds.set i d)
  | _, _, _, .nil => .nil
  | _, _, 0, .cons _ t => .cons h t
  | _, _, i + 1, .cons r t => .cons r (Rps.setI h i t)
end

section
variable {K : PySem.W.Frag} {mg : Str → Option Value} {O O' : List Addr} {G : Hp}
mutual
theorem Rp.fix : ∀ {d : D} {v : V}, Rp K mg O G v d → fixD d = true → Rp K mg O' G v d
  | _, _, .non, _ => .non
  | _, _, .bl b, _ => .bl b
  | _, _, .int i, _ => .int i
  | _, _, .str x, _ => .str x
  | _, _, .lst h t, e => .lst h (Rps.fix t (by simpa [fixD] using e))
  | _, _, .frz h t, e => .frz h (Rps.fix t (by simpa [fixD] using e))
  | _, _, .tup h t, e => .tup h (Rps.fix t (by simpa [fixD] using e))
  | _, _, .cell _, e => by simp [fixD] at e
  | _, _, .fn h, _ => .fn h
  | _, _, .adr a, _ => .adr a
theorem Rps.fix : ∀ {ds : List D} {vs : List V}, Rps K mg O G vs ds → fixDs ds = true → Rps K mg O' G vs ds
  | _, _, .nil, _ => .nil
  | _, _, .cons h t, e => by
    rw [fixDs, Bool.and_eq_true] at e
    exact .cons (Rp.fix h e.1) (Rps.fix t e.2)
end
end

/-! ### the names, the cells -/
abbrev Ev := List (Option D)
def REnv (K : PySem.W.Frag) (mg : Str → Option Value) (O : List Addr) (G : Hp) (σ : L2.St) (env : Ev) : Prop :=
  σ.length = env.length ∧ ∀ (i : Nat) (d : D), env[i]? = some (some d) → ∃ v, σ[i]? = some (some v) ∧ Rp K mg O G v d
def CellOk (K : PySem.W.Frag) (mg : Str → Option Value) (O : Ow) (H : Hp) (a : Addr) : Cell → Prop
  | .lst ds => ∃ vs, H a = some (.lst vs) ∧ Rps K mg [] (hide O H) vs ds
/-- tables of code, and what stays true -/
structure Tb where
  tabs : List (Addr × Str)
  inv : Ow → Hp → Prop
  mono : ∀ {O : Ow} {H : Hp} {O' : Ow} {H' : Hp}, Lw O H O' H' → inv O H → inv O' H'
structure SOk (K : PySem.W.Frag) (mg : Str → Option Value) (T : Tb) (O : Ow) (H : Hp) (S : Store) : Prop where
  len : O.cs.length = S.length
  nd : O.cs.Nodup
  cell : ∀ (n : Nat) (a : Addr) (c : Cell), O.cs[n]? = some a → S[n]? = some c → CellOk K mg O H a c
  tabs : LamX.Tabs T.tabs H
  inv : T.inv O H
  own : ∀ p ∈ O.pv, p ∉ O.cs ∧ ∃ vs, H p = some (.lst vs)
section
variable {K : PySem.W.Frag} {mg : Str → Option Value} {T : Tb} {O O' : Ow} {G G' H H' : Hp} {σ : L2.St} {env : Ev} {S : Store}
theorem REnv.mono (h : REnv K mg O.cs (hide O H) σ env) (l : Le O H O' H') : REnv K mg O'.cs (hide O' H') σ env :=
  ⟨h.1, fun i d e => by
    obtain ⟨v, h1, h2⟩ := h.2 i d e
    exact ⟨v, h1, h2.mono l.pre l.same⟩⟩
theorem Rp.le {v : V} {d : D} (h : Rp K mg O.cs (hide O H) v d) (l : Le O H O' H') : Rp K mg O'.cs (hide O' H') v d := h.mono l.pre l.same
theorem Rps.le {v : List V} {d : List D} (h : Rps K mg O.cs (hide O H) v d) (l : Le O H O' H') : Rps K mg O'.cs (hide O' H') v d := h.mono l.pre l.same
theorem Rps.le0 {v : List V} {d : List D} (h : Rps K mg [] (hide O H) v d) (l : Le O H O' H') : Rps K mg [] (hide O' H') v d := h.mono ⟨[], rfl⟩ l.same
theorem REnv.set {i : Nat} {v : V} {d : D} {O : List Addr} (h : REnv K mg O G σ env) (r : Rp K mg O G v d) : REnv K mg O G (σ.set i (some v)) (env.set i (some d)) :=
  ⟨by simp [h.1], fun j e q => by
    by_cases hj : i = j
    · subst hj
      by_cases hl : i < env.length
      · rw [List.getElem?_set_self hl] at q
        cases q
        exact ⟨v, by rw [List.getElem?_set_self (by rw [h.1]; exact hl)], r⟩
      · rw [List.getElem?_eq_none (by simpa using hl)] at q
        cases q
    · rw [List.getElem?_set_ne hj] at q ⊢
      exact h.2 j e q⟩
theorem SOk.at {n : Nat} {a : Addr} (s : SOk K mg T O H S) (h : O.cs[n]? = some a) : ∃ vs, H a = some (.lst vs) := by
  have hs : n < S.length := by rw [← s.len]; exact (List.getElem?_eq_some_iff.mp h).1
  have ca := s.cell n a S[n] h (List.getElem?_eq_getElem hs)
  cases q : S[n] with
  | lst ds =>
    rw [q] at ca
    obtain ⟨vs, z, _⟩ := ca
    exact ⟨vs, z⟩
theorem SOk.ne {p : Addr} (s : SOk K mg T O H S) (h : H p = Option.none) : ¬ (p ∈ O.cs ∨ p ∈ O.pv) := fun m => by
  rcases m with m | m
  · obtain ⟨n, hn, e⟩ := List.getElem_of_mem m
    obtain ⟨vs, z⟩ := s.at (show O.cs[n]? = some p by rw [List.getElem?_eq_getElem hn, e])
    rw [h] at z
    cases z
  · obtain ⟨_, vs, z⟩ := s.own p m
    rw [h] at z
    cases z
theorem SOk.own_ne {n : Nat} {a : Addr} (s : SOk K mg T O H S) (h : O.cs[n]? = some a) : a ∉ O.pv := fun m => (s.own a m).1 (List.mem_of_getElem? h)
theorem SOk.own_new {p : Addr} {o : HO} (s : SOk K mg T O H S) (h : H p = Option.none) : ∀ q ∈ O.pv, q ∉ O.cs ∧ ∃ vs, upd H p o q = some (.lst vs) := fun q hq => by
  obtain ⟨h1, vs, h2⟩ := s.own q hq
  exact ⟨h1, vs, by rw [upd_ne (ne_of_none h2 h)]; exact h2⟩
theorem SOk.new {p : Addr} {o : HO} (s : SOk K mg T O H S) (h : H p = Option.none) : SOk K mg T O (upd H p o) S := by
  have hp := s.ne h
  refine ⟨s.len, s.nd, fun n a c e1 e2 => ?_, s.tabs.ext (same_upd h), T.mono (Le.new h).w s.inv, s.own_new h⟩
  have := s.cell n a c e1 e2
  have hne : a ≠ p := fun z => hp (.inl (by rw [← z]; exact List.mem_of_getElem? e1))
  cases c with
  | lst ds =>
    obtain ⟨vs, z, t⟩ := this
    exact ⟨vs, by rw [upd_ne hne]; exact z, Rps.le0 t (Le.new h)⟩
theorem tabs_upd {T : List (Addr × Str)} {a : Addr} {o : HO} {vs : List V} (t : LamX.Tabs T H) (ea : H a = some (.lst vs)) : LamX.Tabs T (upd H a o) := fun p hp => by
  obtain ⟨ps, h1, h2, h3⟩ := t p hp
  refine ⟨ps, ?_, h2, fun pos cv hc => ?_⟩
  · rw [upd_ne (ne_of h1 ea (by intro z; cases z))]
    exact h1
  · obtain ⟨c, e1, e2⟩ := h3 pos cv hc
    refine ⟨c, e1, ?_⟩
    rw [upd_ne (ne_of e2 ea (by unfold LamX.CodeO; intro z; cases z))]
    exact e2
theorem SOk.put {n : Nat} {a : Addr} {vs : List V} {ds : List D} (s : SOk K mg T O H S) (h : O.cs[n]? = some a) (t : Rps K mg [] (hide O H) vs ds) : SOk K mg T O (upd H a (.lst vs)) (S.set n (.lst ds)) := by
  have hm : a ∈ O.cs := List.mem_of_getElem? h
  have hn := s.own_ne h
  obtain ⟨vs0, ea⟩ := s.at h
  refine ⟨by simp [s.len], s.nd, fun m b c e1 e2 => ?_, tabs_upd s.tabs ea, T.mono (Le.put hm hn).w s.inv, fun q hq => ⟨(s.own q hq).1, ?_⟩⟩
  · by_cases hmn : n = m
    · subst hmn
      rw [h] at e1
      cases e1
      have hl : n < S.length := by rw [← s.len]; exact (List.getElem?_eq_some_iff.mp h).1
      rw [List.getElem?_set_self hl] at e2
      cases e2
      exact ⟨vs, upd_same, Rps.le0 t (Le.put hm hn)⟩
    · rw [List.getElem?_set_ne hmn] at e2
      have hb : b ≠ a := fun z => by
        subst z
        obtain ⟨l1, q1⟩ := List.getElem?_eq_some_iff.mp e1
        obtain ⟨l2, q2⟩ := List.getElem?_eq_some_iff.mp h
        exact hmn ((List.getElem_inj s.nd).mp (q2.trans q1.symm))
      have := s.cell m b c e1 e2
      cases c with
      | lst ds' =>
        obtain ⟨vs', z, t'⟩ := this
        exact ⟨vs', by rw [upd_ne hb]; exact z, Rps.le0 t' (Le.put hm hn)⟩
  · obtain ⟨_, us, z⟩ := s.own q hq
    exact ⟨us, by rw [upd_ne (fun e => hn (by rw [← e]; exact hq))]; exact z⟩
theorem SOk.grow {p : Addr} {vs : List V} {ds : List D} (s : SOk K mg T O H S) (h : H p = Option.none) (t : Rps K mg [] (hide O H) vs ds) : SOk K mg T (O.add p) (upd H p (.lst vs)) (S ++ [.lst ds]) := by
  have hp := s.ne h
  refine ⟨by simp [s.len, Ow.add], ?_, fun m b c e1 e2 => ?_, s.tabs.ext (same_upd h), T.mono (Le.grow h).w s.inv, fun q hq => ⟨?_, (s.own_new h q hq).2⟩⟩
  · show (O.cs ++ [p]).Nodup
    rw [List.nodup_append]
    exact ⟨s.nd, by simp, by simpa using fun a ha e => hp (.inl (by rw [← e]; exact ha))⟩
  · by_cases hm : m < O.cs.length
    · have e1 : O.cs[m]? = some b := by
        have := e1
        rw [Ow.add, List.getElem?_append_left hm] at this
        exact this
      rw [List.getElem?_append_left (by rw [← s.len]; exact hm)] at e2
      have hb : b ≠ p := fun z => hp (.inl (by rw [← z]; exact List.mem_of_getElem? e1))
      have := s.cell m b c e1 e2
      cases c with
      | lst ds' =>
        obtain ⟨vs', z, t'⟩ := this
        exact ⟨vs', by rw [upd_ne hb]; exact z, Rps.le0 t' (Le.grow h)⟩
    · have e1 : ([p] : List Addr)[m - O.cs.length]? = some b := by
        have := e1
        rw [Ow.add, List.getElem?_append_right (by omega)] at this
        exact this
      rw [List.getElem?_append_right (by rw [← s.len]; omega)] at e2
      have : m - O.cs.length = 0 := by
        have := (List.getElem?_eq_some_iff.mp e1).1
        simp at this
        omega
      rw [this] at e1
      rw [← s.len, this] at e2
      simp at e1 e2
      subst e1 e2
      exact ⟨vs, upd_same, Rps.le0 t (Le.grow h)⟩
  · show q ∉ O.cs ++ [p]
    intro z
    rcases List.mem_append.mp z with z | z
    · exact (s.own q hq).1 z
    · have e : q = p := by simpa using z
      subst e
      exact hp (.inr hq)
/-- a list is being made at p -/
def Ow.make (O : Ow) (p : Addr) : Ow := ⟨O.cs, p :: O.pv⟩
theorem hide_make {p : Addr} {o : HO} (h : H p = Option.none) : hide (O.make p) (upd H p o) = hide O H := by
  funext a
  unfold hide Ow.make
  by_cases e : a = p
  · subst e
    simp [h]
  · simp [e, upd_ne e]
theorem SOk.make {p : Addr} (s : SOk K mg T O H S) (h : H p = Option.none) : SOk K mg T (O.make p) (upd H p (.lst [])) S := by
  have hp := s.ne h
  refine ⟨s.len, s.nd, fun n a c e1 e2 => ?_, s.tabs.ext (same_upd h), T.mono ⟨⟨[], by simp [Ow.make]⟩, by rw [hide_make h]; exact Same.refl _⟩ s.inv, fun q hq => ?_⟩
  · have := s.cell n a c e1 e2
    have hne : a ≠ p := fun z => hp (.inl (by rw [← z]; exact List.mem_of_getElem? e1))
    cases c with
    | lst ds =>
      obtain ⟨vs, z, t⟩ := this
      exact ⟨vs, by rw [upd_ne hne]; exact z, by rw [hide_make h]; exact t⟩
  · rcases List.mem_cons.mp hq with e | hq
    · subst e
      exact ⟨fun z => hp (.inl z), [], upd_same⟩
    · exact s.own_new h q hq
/-- .. it grows -/
theorem hide_made {p : Addr} {o : HO} (m : p ∈ O.pv) : hide O (upd H p o) = hide O H := by
  funext a
  unfold hide
  by_cases e : a = p
  · subst e
    simp [m]
  · rw [upd_ne e]
theorem SOk.made {p : Addr} {vs : List V} (s : SOk K mg T O H S) (m : p ∈ O.pv) : SOk K mg T O (upd H p (.lst vs)) S := by
  obtain ⟨h1, us, h2⟩ := s.own p m
  refine ⟨s.len, s.nd, fun n a c e1 e2 => ?_, tabs_upd s.tabs h2, T.mono ⟨⟨[], by simp⟩, by rw [hide_made m]; exact Same.refl _⟩ s.inv, fun q hq => ⟨(s.own q hq).1, ?_⟩⟩
  · have := s.cell n a c e1 e2
    have hne : a ≠ p := fun z => h1 (by rw [← z]; exact List.mem_of_getElem? e1)
    cases c with
    | lst ds =>
      obtain ⟨vs, z, t⟩ := this
      exact ⟨vs, by rw [upd_ne hne]; exact z, by rw [hide_made m]; exact t⟩
  · by_cases e : q = p
    · subst e
      exact ⟨_, upd_same⟩
    · obtain ⟨_, us, z⟩ := s.own q hq
      exact ⟨us, by rw [upd_ne e]; exact z⟩
/-- .. it is done -/
def Ow.done (O : Ow) (pv : List Addr) : Ow := ⟨O.cs, pv⟩
theorem hide_done {p : Addr} {pv : List Addr} (e : O.pv = p :: pv) : Same (hide O H) (hide (O.done pv) H) := fun a o h => by
  obtain ⟨n, h, t⟩ := hide_le h
  exact hide_of (fun z => n (z.elim .inl fun z => .inr (by rw [e]; exact List.mem_cons_of_mem _ z))) h t
theorem SOk.done {p : Addr} {pv : List Addr} (s : SOk K mg T O H S) (e : O.pv = p :: pv) : SOk K mg T (O.done pv) H S := by
  refine ⟨s.len, s.nd, fun n a c e1 e2 => ?_, s.tabs, T.mono ⟨⟨[], by simp [Ow.done]⟩, hide_done e⟩ s.inv, fun q hq => s.own q (by rw [e]; exact List.mem_cons_of_mem _ hq)⟩
  have := s.cell n a c e1 e2
  cases c with
  | lst ds =>
    obtain ⟨vs, z, t⟩ := this
    exact ⟨vs, z, t.mono ⟨[], rfl⟩ (hide_done e)⟩
end
end Z
end
section
set_option maxHeartbeats 4000000
namespace Z
open PySem PySem.Spec PyProof.Rows L2
abbrev XKs := L2.St → XK
abbrev BE := Ev → M D
abbrev BT := Ev → M Bool
abbrev BA := Ev → M (List D)
section
variable (K : PySem.W.Frag) (mg : Str → Option Value) (T : Tb)
/-- what an end of a computation asks -/
def Po {α β : Type} (R : List Addr → Hp → β → α → Prop) (r : Res α) (O : Ow) (H : Hp) (Q : β → Hp → Prop) (E : XK) : Prop := match r with
  | .ok a S' => ∀ O' H' b, Le O H O' H' → SOk K mg T O' H' S' → R O'.cs (hide O' H') b a → Q b H'
  | .err c S' => ∀ O' H' C, Le O H O' H' → SOk K mg T O' H' S' → mg c = some (.ref C) → E (.ref C) none H'
  | .no => False
abbrev RB : List Addr → Hp → Bool → Bool → Prop := fun _ _ b a => b = a
def tD (E : XKs) (f : BE) : TE := fun σ H Q => ∃ env S O, REnv K mg O.cs (hide O H) σ env ∧ SOk K mg T O H S ∧ Po K mg T (Rp K mg) (f env S) O H Q (E σ)
def tDT (E : XKs) (f : BT) : TT := fun σ H Q => ∃ env S O, REnv K mg O.cs (hide O H) σ env ∧ SOk K mg T O H S ∧ Po K mg T RB (f env S) O H Q (E σ)
def tDA (E : XKs) (f : BA) : TA := fun σ H Q => ∃ env S O, REnv K mg O.cs (hide O H) σ env ∧ SOk K mg T O H S ∧ Po K mg T (Rps K mg) (f env S) O H Q (E σ)
end
section
variable {K : PySem.W.Frag} {mg : Str → Option Value} {T : Tb} {α β γ δ : Type} {R : List Addr → Hp → β → α → Prop} {R' : List Addr → Hp → δ → γ → Prop}
theorem Po.le {r : Res α} {O O' : Ow} {H H' : Hp} {Q : β → Hp → Prop} {E : XK} (h : Po K mg T R r O H Q E) (l : Le O H O' H') : Po K mg T R r O' H' Q E := by
  cases r with
  | ok a S' => exact fun O2 H2 b l2 s q => h O2 H2 b (l.trans l2) s q
  | err c S' => exact fun O2 H2 C l2 s q => h O2 H2 C (l.trans l2) s q
  | no => exact h
/-- one computation behind another -/
theorem Po.bind {m : M α} {f : α → M γ} {S : Store} {O : Ow} {H : Hp} {Q : β → Hp → Prop} {Q' : δ → Hp → Prop} {E : XK} (h : Po K mg T R' ((m >>= f) S) O H Q' E)
    (k : ∀ a S1 O1 H1 b, Le O H O1 H1 → SOk K mg T O1 H1 S1 → R O1.cs (hide O1 H1) b a → Po K mg T R' (f a S1) O1 H1 Q' E → Q b H1) : Po K mg T R (m S) O H Q E := by
  rw [bd_ap] at h
  cases e : m S with
  | ok a S1 =>
    rw [e] at h
    exact fun O1 H1 b l s r => k a S1 O1 H1 b l s r (Po.le h l)
  | err c S1 =>
    rw [e] at h
    exact h
  | no =>
    rw [e] at h
    exact h
theorem Po.imp {r : Res α} {O : Ow} {H : Hp} {Q Q' : β → Hp → Prop} {E : XK} (h : Po K mg T R r O H Q E) (k : ∀ b H', Q b H' → Q' b H') : Po K mg T R r O H Q' E := by
  cases r with
  | ok a S' => exact fun O2 H2 b l2 s q => k _ _ (h O2 H2 b l2 s q)
  | err c S' => exact h
  | no => exact h
end

theorem _root_.L2.PE.monoZ {X : Cx} {e : Expr} {t t' : TE} (h : PE X e t) (k : ∀ σ H Q, t' σ H Q → t σ H Q) : PE X e t' := ⟨fun pins s σ H Q I q => h.run pins s σ H Q I (k _ _ _ q)⟩
theorem _root_.L2.PT.monoZ {X : Cx} {e : Expr} {t t' : TT} (h : PT X e t) (k : ∀ σ H Q, t' σ H Q → t σ H Q) : PT X e t' := ⟨fun pins s σ H Q I q => h.run pins s σ H Q I (k _ _ _ q)⟩
theorem _root_.L2.PW.monoZ {X : Cx} {e : Expr} {t t' : TT} (h : PW X e t) (k : ∀ σ H Q, t' σ H Q → t σ H Q) : PW X e t' := ⟨fun w pins s σ H Q I q => h.run w pins s σ H Q I (k _ _ _ q)⟩
theorem _root_.L2.PA.monoZ {X : Cx} {e : List Expr} {t t' : TA} (h : PA X e t) (k : ∀ σ H Q, t' σ H Q → t σ H Q) : PA X e t' := ⟨fun w pins s σ H Q I q => h.run w pins s σ H Q I (k _ _ _ q)⟩
theorem _root_.L2.PS.monoZ {X : Cx} {e : Stmt} {t t' : TS} (h : PS X e t) (k : ∀ D σ H, t' D σ H → t D σ H) : PS X e t' := ⟨fun pins s σ H Q I q => h.run pins s σ H Q I (k _ _ _ q)⟩
theorem _root_.L2.PSs.monoZ {X : Cx} {e : List Stmt} {t t' : TS} (h : PSs X e t) (k : ∀ D σ H, t' D σ H → t D σ H) : PSs X e t' := ⟨fun pins s σ H Q I q => h.run pins s σ H Q I (k _ _ _ q)⟩

/-! ### judgements over data -/
structure DE (X : Cx) (T : Tb) (E : XKs) (e : Expr) (f : BE) : Prop where
  pe : PE X e (tD X.K X.mg T E f)
structure DT (X : Cx) (T : Tb) (E : XKs) (e : Expr) (f : BT) : Prop where
  pt : PT X e (tDT X.K X.mg T E f)
structure DW (X : Cx) (T : Tb) (E : XKs) (e : Expr) (f : BT) : Prop where
  pw : PW X e (tDT X.K X.mg T E f)
structure DA (X : Cx) (T : Tb) (E : XKs) (es : List Expr) (f : BA) : Prop where
  pa : PA X es (tDA X.K X.mg T E f)

/-! ### expressions -/
def eVar (i : Nat) : BE := fun env => ofO (env[i]?.getD none)
def eC (d : D) : BE := fun _ => pure d
section
variable {X : Cx} {T : Tb} {E : XKs}
theorem de_var (i : Nat) {x : Str} {pos : Pos} (hN : X.N[i]? = some x := by rfl) (hv : Vis X.env.scope x := by first | exact Or.inl rfl | exact Or.inr (Or.inl rfl) | exact Or.inr (Or.inr rfl)) (hd : (x == ("__debug__" : Str)) = false := by decide)
    (hcd : (x == ("__classdict__" : Str)) = false := by decide) : DE X T E (.Name x pos) (eVar i) := ⟨(pe_var hN hv hd hcd).monoZ fun σ H Q ⟨env, S, O, re, so, q⟩ => by
  unfold eVar at q
  cases e : env[i]? with
  | none =>
    rw [e] at q
    exact q.elim
  | some o =>
    cases o with
    | none =>
      rw [e] at q
      exact q.elim
    | some d =>
      rw [e] at q
      obtain ⟨v, h1, h2⟩ := re.2 i d e
      exact ⟨v, h1, q O H v Le.refl so h2⟩⟩
theorem de_const {e : Expr} {d : D} {v : V} (h : PE X e (tC v)) (r : ∀ O G, Rp X.K X.mg O G v d) : DE X T E e (eC d) := ⟨h.monoZ fun σ H Q ⟨env, S, O, re, so, q⟩ => q O H v Le.refl so (r _ _)⟩
theorem de_int {i : Int} {j pos} : DE X T E (.Constant (.int i) j pos) (eC (.int i)) := de_const pe_int fun _ _ => .int i
theorem de_bl {b j pos} : DE X T E (.Constant (.bool b) j pos) (eC (.bool b)) := de_const pe_bl fun _ _ => .bl b
theorem de_non {j pos} : DE X T E (.Constant .none j pos) (eC .none) := de_const pe_non fun _ _ => .non
theorem de_str {x j pos} : DE X T E (.Constant (.str x) j pos) (eC (.str x)) := de_const pe_str fun _ _ => .str x
/-- a def of the module, as a value -/
theorem de_fn {x : Str} {f : Addr} {pos : Pos} (hg : Gl X x) (hm : X.mg x = some (.ref f)) (hd : (x == ("__debug__" : Str)) = false := by decide) : DE X T E (.Name x pos) (eC (.fn x)) :=
  de_const (pe_glob (v := .ref f) hg hm rfl hd) fun _ _ => .fn hm

/-! ### two values -/
/-- g tells what the operation r makes of data -/
def Op2 (X : Cx) (T : Tb) (r : R2) (g : D → D → M D) : Prop := ∀ O H S x y a b Q E, SOk X.K X.mg T O H S → Rp X.K X.mg O.cs (hide O H) x a → Rp X.K X.mg O.cs (hide O H) y b → Po X.K X.mg T (Rp X.K X.mg) (g a b S) O H Q E → r x y H Q
def e2 (g : D → D → M D) (f1 f2 : BE) : BE := fun env => f1 env >>= fun a => f2 env >>= fun b => g a b
theorem t2_op {r : R2} {g : D → D → M D} {f1 f2 : BE} (h : Op2 X T r g) : ∀ σ H Q, tD X.K X.mg T E (e2 g f1 f2) σ H Q → tOp r (tD X.K X.mg T E f1) (tD X.K X.mg T E f2) σ H Q := fun σ H Q ⟨env, S, O, re, so, q⟩ =>
  ⟨env, S, O, re, so, Po.bind q fun a S1 O1 H1 x l s1 r1 q1 => ⟨env, S1, O1, re.mono l, s1, Po.bind q1 fun b S2 O2 H2 y l2 s2 r2 q2 => h O2 H2 S2 x y a b Q _ s2 (r1.le l2) r2 q2⟩⟩
theorem de_op {op : Operator} {r : R2} {g : D → D → M D} {a b : Expr} {f1 f2 : BE} {pos : Pos} (ho : OpR X (binaryOp op) r) (h : Op2 X T r g) (ha : DE X T E a f1) (hb : DE X T E b f2) : DE X T E (.BinOp a op b pos) (e2 g f1 f2) :=
  ⟨(pe_op ho ha.pe hb.pe).monoZ (t2_op h)⟩
theorem de_cmp {op : CmpOp} {r : R2} {g : D → D → M D} {a b : Expr} {f1 f2 : BE} {pos : Pos} (ho : OpR X (compareOp op) r) (h : Op2 X T r g) (ha : DE X T E a f1) (hb : DE X T E b f2) (hm : behindInMarks op b = false) : DE X T E (.Compare a [op] [b] pos) (e2 g f1 f2) :=
  ⟨(pe_cmpR ho ha.pe hb.pe hm).monoZ (t2_op h)⟩
theorem de_ix {r : R2} {g : D → D → M D} {a b : Expr} {f1 f2 : BE} {pos : Pos} (hr : IxR X r) (h : Op2 X T r g) (ha : DE X T E a f1) (hb : DE X T E b f2) (hs : PlainIx b := by intro _ _; rfl) : DE X T E (.Subscript a b pos) (e2 g f1 f2) :=
  ⟨(pe_ix hr ha.pe hb.pe hs).monoZ (t2_op h)⟩
/-- one value -/
def Op1 (X : Cx) (T : Tb) (r : V → Hp → VK → Prop) (g : D → M D) : Prop := ∀ O H S x a Q E, SOk X.K X.mg T O H S → Rp X.K X.mg O.cs (hide O H) x a → Po X.K X.mg T (Rp X.K X.mg) (g a S) O H Q E → r x H Q
def e1 (g : D → M D) (f : BE) : BE := fun env => f env >>= g
theorem de_un {op : UnaryOp} {r : V → Hp → VK → Prop} {g : D → M D} {a : Expr} {f : BE} {pos : Pos} (ho : UnR X (unaryOp op) r) (h : Op1 X T r g) (ha : DE X T E a f) : DE X T E (.UnaryOp op a pos) (e1 g f) :=
  ⟨(pe_un ho ha.pe).monoZ fun σ H Q ⟨env, S, O, re, so, q⟩ => ⟨env, S, O, re, so, Po.bind q fun a S1 O1 H1 x l s1 r1 q1 => h O1 H1 S1 x a Q _ s1 r1 q1⟩⟩

/-! ### argument lists -/
def aNil : BA := fun _ => pure []
def aCons (f : BE) (g : BA) : BA := fun env => f env >>= fun a => g env >>= fun as => pure (a :: as)
theorem da_nil : DA X T E [] aNil := ⟨pa_nil.monoZ fun σ H Q ⟨env, S, O, re, so, q⟩ => q O H [] Le.refl so .nil⟩
theorem da_cons {e : Expr} {es : List Expr} {f : BE} {g : BA} (ha : DE X T E e f) (hr : DA X T E es g) (hs : starEach (e :: es) X.env = (false, eval e X.env) :: starEach es X.env := by rfl) : DA X T E (e :: es) (aCons f g) :=
  ⟨(pa_cons ha.pe hr.pa hs).monoZ fun σ H Q ⟨env, S, O, re, so, q⟩ => ⟨env, S, O, re, so, Po.bind q fun a S1 O1 H1 x l s1 r1 q1 =>
    ⟨env, S1, O1, re.mono l, s1, Po.bind q1 fun as S2 O2 H2 xs l2 s2 r2 q2 => q2 O2 H2 (x :: xs) Le.refl s2 (.cons (r1.le l2) r2)⟩⟩⟩
/-- a display -/
def eTup (g : BA) : BE := fun env => g env >>= fun as => if as.length ≤ 1000000 then pure (.tuple as) else no
def eLst (g : BA) : BE := fun env => g env >>= fun as => if as.length ≤ 1000000 then pure (.list as) else no
theorem small_len {n : Nat} (h : n ≤ 1000000) : n ≤ sizeLine := Nat.le_trans h (by decide)
theorem new_tup {O : Ow} {H : Hp} {S : Store} {as : List D} {xs : List V} {Q : VK} {Ex : XK} (so : SOk X.K X.mg T O H S) (r : Rps X.K X.mg O.cs (hide O H) xs as) (q : Po X.K X.mg T (Rp X.K X.mg) (.ok (.tuple as) S) O H Q Ex) :
    ∀ p, H p = none → Q (.ref p) (upd H p (.tup xs)) := fun p hp =>
  q O _ (.ref p) (Le.new hp) (so.new hp) (.tup (.inl (.inl (hide_of (so.ne hp) upd_same))) (r.le (Le.new hp)))
theorem new_lst {O : Ow} {H : Hp} {S : Store} {as : List D} {xs : List V} {Q : VK} {Ex : XK} (so : SOk X.K X.mg T O H S) (r : Rps X.K X.mg O.cs (hide O H) xs as) (q : Po X.K X.mg T (Rp X.K X.mg) (.ok (.list as) S) O H Q Ex) :
    ∀ p, H p = none → Q (.ref p) (upd H p (.lst xs)) := fun p hp =>
  q O _ (.ref p) (Le.new hp) (so.new hp) (.lst (hide_of (so.ne hp) upd_same) (r.le (Le.new hp)))
theorem de_tup {es : List Expr} {g : BA} {x1 pos} (h : DA X T E es g) : DE X T E (.Tuple es x1 pos) (eTup g) :=
  ⟨(pe_tup h.pa).monoZ fun σ H Q ⟨env, S, O, re, so, q⟩ => ⟨env, S, O, re, so, Po.bind q fun as S1 O1 H1 xs l s1 r1 q1 => by
    split at q1
    · rename_i hl
      exact ⟨by rw [r1.length]; exact small_len hl, new_tup s1 r1 q1⟩
    · exact q1.elim⟩⟩
theorem de_lst {es : List Expr} {g : BA} {pos} (h : DA X T E es g) : DE X T E (.List es pos) (eLst g) :=
  ⟨(pe_lst h.pa).monoZ fun σ H Q ⟨env, S, O, re, so, q⟩ => ⟨env, S, O, re, so, Po.bind q fun as S1 O1 H1 xs l s1 r1 q1 => by
    split at q1
    · rename_i hl
      exact ⟨by rw [r1.length]; exact small_len hl, new_lst s1 r1 q1⟩
    · exact q1.elim⟩⟩
/-- a display that is going to change -/
def newCell (as : List D) : M D := fun S => if fixDs as = true then .ok (.cell S.length) (S ++ [.lst as]) else .no
def eCel (g : BA) : BE := fun env => g env >>= fun as => if as.length ≤ 1000000 then newCell as else no
theorem new_cell {O : Ow} {H : Hp} {S : Store} {as : List D} {xs : List V} {Q : VK} {Ex : XK} (so : SOk X.K X.mg T O H S) (r : Rps X.K X.mg O.cs (hide O H) xs as) (q : Po X.K X.mg T (Rp X.K X.mg) (newCell as S) O H Q Ex) :
    ∀ p, H p = none → Q (.ref p) (upd H p (.lst xs)) := fun p hp => by
  unfold newCell at q
  split at q
  · rename_i hf
    exact q (O.add p) _ (.ref p) (Le.grow hp) (so.grow hp (r.fix hf)) (.cell (by rw [← so.len, Ow.add, List.getElem?_append_right (Nat.le_refl _)]; simp))
  · exact q.elim
theorem de_cel {es : List Expr} {g : BA} {pos} (h : DA X T E es g) : DE X T E (.List es pos) (eCel g) :=
  ⟨(pe_lst h.pa).monoZ fun σ H Q ⟨env, S, O, re, so, q⟩ => ⟨env, S, O, re, so, Po.bind q fun as S1 O1 H1 xs l s1 r1 q1 => by
    by_cases hl : as.length ≤ 1000000
    · rw [if_pos hl] at q1
      exact ⟨by rw [r1.length]; exact small_len hl, new_cell s1 r1 q1⟩
    · rw [if_neg hl] at q1
      exact q1.elim⟩⟩
end

/-! ### tests -/
def tru (a : D) : M Bool := fun S => match a with
  | .none => .ok false S
  | .bool b => .ok b S
  | .int i => .ok (i != 0) S
  | .list xs => .ok (!xs.isEmpty) S
  | .frz xs => .ok (!xs.isEmpty) S
  | .tuple xs => .ok (!xs.isEmpty) S
  | .cell n => match S[n]? with
    | some (.lst xs) => .ok (!xs.isEmpty) S
    | _ => .no
  | _ => .no
def bTru (f : BE) : BT := fun env => f env >>= tru
theorem isE {xs : List V} {ds : List D} (h : xs.length = ds.length) : xs.isEmpty = ds.isEmpty := by
  cases xs <;> cases ds <;> simp_all
section
variable {X : Cx} {T : Tb} {E : XKs}
theorem sok_cell {K : PySem.W.Frag} {mg : Str → Option Value} {T : Tb} {O : Ow} {H : Hp} {S : Store} {n : Nat} {a : Addr} {ds : List D} (s : SOk K mg T O H S) (h : O.cs[n]? = some a) (e : S[n]? = some (.lst ds)) : ∃ vs, H a = some (.lst vs) ∧ Rps K mg O.cs (hide O H) vs ds := by
  obtain ⟨vs, h1, h2⟩ := s.cell n a _ h e
  exact ⟨vs, h1, h2.mono ⟨O.cs, rfl⟩ (Same.refl _)⟩
theorem sl_le {K : PySem.W.Frag} {O : Ow} {H : Hp} {a : Addr} {xs : List V} (h : SqL K (hide O H) a xs) : SqL K H a xs := Same.seq (fun b o q => (hide_le q).2.1) h
theorem st_le {K : PySem.W.Frag} {O : Ow} {H : Hp} {a : Addr} {xs : List V} (h : SqT K (hide O H) a xs) : SqT K H a xs := Same.seqT (fun b o q => (hide_le q).2.1) h
theorem dt_tru {e : Expr} {f : BE} (h : DE X T E e f) (he : ∀ whole, isTrue e X.env whole = (do let v ← whole; standAt e.pos; holding [v] (truthy v)) := by intro _; rfl) : DT X T E e (bTru f) :=
  ⟨(pt_truth h.pe he).monoZ fun σ H Q ⟨env, S, O, re, so, q⟩ => ⟨env, S, O, re, so, Po.bind q fun a S1 O1 H1 x l s1 r1 q1 => by
    cases r1 with
    | non => exact ⟨false, rfl, q1 O1 H1 false Le.refl s1 rfl⟩
    | bl b => exact ⟨b, rfl, q1 O1 H1 b Le.refl s1 rfl⟩
    | int i => exact ⟨i != 0, rfl, q1 O1 H1 _ Le.refl s1 rfl⟩
    | str i => exact q1.elim
    | lst hs t => exact ⟨_, .inl ⟨_, .inl (.inl (hide_le hs).2.1), rfl⟩, q1 O1 H1 _ Le.refl s1 (by rw [isE t.length])⟩
    | frz hs t => exact ⟨_, .inl ⟨_, sl_le hs, rfl⟩, q1 O1 H1 _ Le.refl s1 (by rw [isE t.length])⟩
    | tup hs t => exact ⟨_, .inr (.inl ⟨_, st_le hs, rfl⟩), q1 O1 H1 _ Le.refl s1 (by rw [isE t.length])⟩
    | @cell a n hO =>
      unfold tru at q1
      dsimp only at q1
      split at q1
      · rename_i ds e2
        obtain ⟨vs, h1, h2⟩ := sok_cell s1 hO e2
        exact ⟨_, .inl ⟨vs, .inl (.inl h1), rfl⟩, q1 O1 H1 _ Le.refl s1 (by rw [isE h2.length])⟩
      · exact q1.elim
    | fn _ => exact q1.elim
    | adr _ => exact q1.elim⟩⟩
/-- a comparison, as a test -/
def tB1 (f : BE) : BT := fun env => f env >>= fun a => match a with
  | .bool b => pure b
  | _ => no
theorem toB {r : R2} {g : D → D → M D} {f1 f2 : BE} (h : Op2 X T r g) : ∀ σ H Q, tDT X.K X.mg T E (tB1 (e2 g f1 f2)) σ H Q → tTest (tOp r (tD X.K X.mg T E f1) (tD X.K X.mg T E f2)) σ H Q := fun σ H Q ⟨env, S, O, re, so, q⟩ =>
  t2_op h σ H _ ⟨env, S, O, re, so, Po.bind q fun a S1 O1 H1 x l s1 r1 q1 => by
    cases r1 with
    | bl b => exact ⟨b, rfl, q1 O1 H1 b Le.refl s1 rfl⟩
    | _ => exact q1.elim⟩
theorem dt_cmp {op : CmpOp} {r : R2} {g : D → D → M D} {a b : Expr} {f1 f2 : BE} {pos : Pos} (ho : OpR X (compareOp op) r) (h : Op2 X T r g) (ha : DE X T E a f1) (hb : DE X T E b f2) (hm : behindInMarks op b = false) : DT X T E (.Compare a [op] [b] pos) (tB1 (e2 g f1 f2)) :=
  ⟨(pt_cmpR ho ha.pe hb.pe hm).monoZ (toB h)⟩
def bNot (f : BT) : BT := fun env => f env >>= fun b => pure (!b)
theorem dt_not {a : Expr} {f : BT} {pos : Pos} (h : DT X T E a f) : DT X T E (.UnaryOp .Not a pos) (bNot f) :=
  ⟨(pt_not h.pt).monoZ fun σ H Q ⟨env, S, O, re, so, q⟩ => ⟨env, S, O, re, so, Po.bind q fun b S1 O1 H1 x l s1 r1 q1 => by
    cases r1
    exact q1 O1 H1 _ Le.refl s1 rfl⟩⟩
def bAnd (f g : BT) : BT := fun env => f env >>= fun b => if b = true then g env else pure false
def bOr (f g : BT) : BT := fun env => f env >>= fun b => if b = true then pure true else g env
theorem dw_and1 {a : Expr} {f : BT} {pos : Pos} (h : DT X T E a f) : DW X T E (.BoolOp .And [a] pos) f := ⟨pw_and1 h.pt⟩
theorem dw_or1 {a : Expr} {f : BT} {pos : Pos} (h : DT X T E a f) : DW X T E (.BoolOp .Or [a] pos) f := ⟨pw_or1 h.pt⟩
theorem dw_and {a b : Expr} {rest : List Expr} {f g : BT} {pos : Pos} (h : DT X T E a f) (k : DW X T E (.BoolOp .And (b :: rest) pos) g) : DW X T E (.BoolOp .And (a :: b :: rest) pos) (bAnd f g) :=
  ⟨(pw_and h.pt k.pw).monoZ fun σ H Q ⟨env, S, O, re, so, q⟩ => ⟨env, S, O, re, so, Po.bind q fun b S1 O1 H1 x l s1 r1 q1 => by
    cases r1
    cases b with
    | true => exact ⟨env, S1, O1, re.mono l, s1, q1⟩
    | false => exact q1 O1 H1 _ Le.refl s1 rfl⟩⟩
theorem dw_or {a b : Expr} {rest : List Expr} {f g : BT} {pos : Pos} (h : DT X T E a f) (k : DW X T E (.BoolOp .Or (b :: rest) pos) g) : DW X T E (.BoolOp .Or (a :: b :: rest) pos) (bOr f g) :=
  ⟨(pw_or h.pt k.pw).monoZ fun σ H Q ⟨env, S, O, re, so, q⟩ => ⟨env, S, O, re, so, Po.bind q fun b S1 O1 H1 x l s1 r1 q1 => by
    cases r1
    cases b with
    | true => exact q1 O1 H1 _ Le.refl s1 rfl
    | false => exact ⟨env, S1, O1, re.mono l, s1, q1⟩⟩⟩
theorem dt_w {e : Expr} {f : BT} (h : DW X T E e f) : DT X T E e f := ⟨h.pw.pt⟩
/-- and, or, not as values, of truth values -/
def toBool : D → M Bool
  | .bool b => pure b
  | _ => no
def eAnd (f g : BE) : BE := fun env => f env >>= fun a => toBool a >>= fun b => if b = true then g env else pure (.bool false)
def eOr (f g : BE) : BE := fun env => f env >>= fun a => toBool a >>= fun b => if b = true then pure (.bool true) else g env
def eNot (f : BE) : BE := fun env => f env >>= fun a => toBool a >>= fun b => pure (.bool (!b))
theorem de_one {op} {a : Expr} {f : BE} {pos : Pos} (h : DE X T E a f) : DE X T E (.BoolOp op [a] pos) f := ⟨pe_one h.pe⟩
theorem de_and {a b : Expr} {rest : List Expr} {f g : BE} {pos : Pos} (h : DE X T E a f) (k : DE X T E (.BoolOp .And (b :: rest) pos) g) : DE X T E (.BoolOp .And (a :: b :: rest) pos) (eAnd f g) :=
  ⟨(pe_and h.pe k.pe).monoZ fun σ H Q ⟨env, S, O, re, so, q⟩ => ⟨env, S, O, re, so, Po.bind q fun d S1 O1 H1 x l s1 r1 q1 => by
    cases r1 with
    | bl b =>
      refine ⟨b, rfl, ?_⟩
      cases b with
      | true => exact ⟨env, S1, O1, re.mono l, s1, q1⟩
      | false => exact q1 O1 H1 _ Le.refl s1 (.bl false)
    | _ => exact q1.elim⟩⟩
theorem de_or {a b : Expr} {rest : List Expr} {f g : BE} {pos : Pos} (h : DE X T E a f) (k : DE X T E (.BoolOp .Or (b :: rest) pos) g) : DE X T E (.BoolOp .Or (a :: b :: rest) pos) (eOr f g) :=
  ⟨(pe_or h.pe k.pe).monoZ fun σ H Q ⟨env, S, O, re, so, q⟩ => ⟨env, S, O, re, so, Po.bind q fun d S1 O1 H1 x l s1 r1 q1 => by
    cases r1 with
    | bl b =>
      refine ⟨b, rfl, ?_⟩
      cases b with
      | true => exact q1 O1 H1 _ Le.refl s1 (.bl true)
      | false => exact ⟨env, S1, O1, re.mono l, s1, q1⟩
    | _ => exact q1.elim⟩⟩
theorem de_not {a : Expr} {f : BE} {pos : Pos} (h : DE X T E a f) : DE X T E (.UnaryOp .Not a pos) (eNot f) :=
  ⟨(pe_not h.pe).monoZ fun σ H Q ⟨env, S, O, re, so, q⟩ => ⟨env, S, O, re, so, Po.bind q fun d S1 O1 H1 x l s1 r1 q1 => by
    cases r1 with
    | bl b => exact ⟨b, rfl, q1 O1 H1 _ Le.refl s1 (.bl _)⟩
    | _ => exact q1.elim⟩⟩
def eIf (t : BT) (f g : BE) : BE := fun env => t env >>= fun b => if b = true then f env else g env
theorem de_if {c a b : Expr} {t : BT} {f g : BE} {pos : Pos} (hc : DT X T E c t) (ha : DE X T E a f) (hb : DE X T E b g) : DE X T E (.IfExp c a b pos) (eIf t f g) :=
  ⟨(pe_ifExp hc.pt ha.pe hb.pe).monoZ fun σ H Q ⟨env, S, O, re, so, q⟩ => ⟨env, S, O, re, so, Po.bind q fun d S1 O1 H1 x l s1 r1 q1 => by
    cases r1
    cases d with
    | true => exact ⟨env, S1, O1, re.mono l, s1, q1⟩
    | false => exact ⟨env, S1, O1, re.mono l, s1, q1⟩⟩⟩
end
end Z
end
section
set_option maxHeartbeats 4000000
namespace Z
open PySem PySem.Spec PyProof.Rows L2

/-! ### statements -/
inductive SR where
  | next (env : Ev) (S : Store) | ret (d : D) (S : Store) | brk (env : Ev) (S : Store) | cont (env : Ev) (S : Store) | err (c : Str) (env : Ev) (S : Store) | no
abbrev BS := Ev → Store → SR
section
variable (K : PySem.W.Frag) (mg : Str → Option Value) (T : Tb)
def PoS (r : SR) (O : Ow) (H : Hp) (Dn : Ends) (E : XKs) : Prop := match r with
  | .next env S' => ∀ O' H' σ', Le O H O' H' → SOk K mg T O' H' S' → REnv K mg O'.cs (hide O' H') σ' env → Dn.nx σ' H'
  | .ret d S' => ∀ O' H' v, Le O H O' H' → SOk K mg T O' H' S' → Rp K mg O'.cs (hide O' H') v d → Dn.rt v H'
  | .brk env S' => ∀ O' H' σ', Le O H O' H' → SOk K mg T O' H' S' → REnv K mg O'.cs (hide O' H') σ' env → Dn.bk σ' H'
  | .cont env S' => ∀ O' H' σ', Le O H O' H' → SOk K mg T O' H' S' → REnv K mg O'.cs (hide O' H') σ' env → Dn.ct σ' H'
  | .err c env S' => ∀ O' H' σ' C, Le O H O' H' → SOk K mg T O' H' S' → REnv K mg O'.cs (hide O' H') σ' env → mg c = some (.ref C) → E σ' (.ref C) none H'
  | .no => False
def tDS (E : XKs) (f : BS) : TS := fun Dn σ H => ∃ env S O, REnv K mg O.cs (hide O H) σ env ∧ SOk K mg T O H S ∧ PoS K mg T (f env S) O H Dn E
end
section
variable {K : PySem.W.Frag} {mg : Str → Option Value} {T : Tb}
theorem PoS.le {r : SR} {O O' : Ow} {H H' : Hp} {Dn : Ends} {E : XKs} (h : PoS K mg T r O H Dn E) (l : Le O H O' H') : PoS K mg T r O' H' Dn E := by
  cases r with
  | next a S' => exact fun O2 H2 b l2 s q => h O2 H2 b (l.trans l2) s q
  | ret a S' => exact fun O2 H2 b l2 s q => h O2 H2 b (l.trans l2) s q
  | brk a S' => exact fun O2 H2 b l2 s q => h O2 H2 b (l.trans l2) s q
  | cont a S' => exact fun O2 H2 b l2 s q => h O2 H2 b (l.trans l2) s q
  | err c e S' => exact fun O2 H2 b C l2 s q => h O2 H2 b C (l.trans l2) s q
  | no => exact h
/-- a value, then a statement's end -/
def thenS {α : Type} (m : Res α) (env : Ev) (f : α → Store → SR) : SR := match m with
  | .ok a S' => f a S'
  | .err c S' => .err c env S'
  | .no => .no
@[simp] theorem thenS_ok {α : Type} (a : α) (S : Store) (env : Ev) (f : α → Store → SR) : thenS (.ok a S) env f = f a S := rfl
@[simp] theorem thenS_err {α : Type} (c : Str) (S : Store) (env : Ev) (f : α → Store → SR) : thenS (.err c S) env f = .err c env S := rfl
@[simp] theorem thenS_no {α : Type} (env : Ev) (f : α → Store → SR) : thenS .no env f = .no := rfl
theorem PoS.bind {α β : Type} {R : List Addr → Hp → β → α → Prop} {m : Res α} {f : α → Store → SR} {O : Ow} {H : Hp} {Q : β → Hp → Prop} {Dn : Ends} {E : XKs} {env : Ev} {σ : L2.St} (re : REnv K mg O.cs (hide O H) σ env) (h : PoS K mg T (thenS m env f) O H Dn E)
    (k : ∀ a S1 O1 H1 b, Le O H O1 H1 → SOk K mg T O1 H1 S1 → R O1.cs (hide O1 H1) b a → PoS K mg T (f a S1) O1 H1 Dn E → Q b H1) : Po K mg T R m O H Q (E σ) := by
  cases m with
  | ok a S1 => exact fun O1 H1 b l s r => k a S1 O1 H1 b l s r (PoS.le h l)
  | err c S1 => exact fun O1 H1 C l s e => h O1 H1 σ C l s (re.mono l) e
  | no => exact h
end
structure DS (X : Cx) (T : Tb) (E : XKs) (st : Stmt) (f : BS) : Prop where
  ps : PS X st (tDS X.K X.mg T E f)
structure DSs (X : Cx) (T : Tb) (E : XKs) (sts : List Stmt) (f : BS) : Prop where
  pss : PSs X sts (tDS X.K X.mg T E f)

def sNil : BS := fun env S => .next env S
def sSeq (f g : BS) : BS := fun env S => match f env S with
  | .next env' S' => g env' S'
  | r => r
def sExpr (f : BE) : BS := fun env S => thenS (f env S) env fun _ S' => .next env S'
def sRet (f : BE) : BS := fun env S => thenS (f env S) env fun a S' => .ret a S'
def sRetN : BS := fun _ S => .ret .none S
def sIf (t : BT) (f g : BS) : BS := fun env S => thenS (t env S) env fun b S' => if b = true then f env S' else g env S'
def sRaise (c : Str) : BS := fun env S => .err c env S
section
variable {X : Cx} {T : Tb} {E : XKs}
theorem tseq {f g : BS} : ∀ Dn σ H, tDS X.K X.mg T E (sSeq f g) Dn σ H → tSeq (tDS X.K X.mg T E f) (tDS X.K X.mg T E g) Dn σ H := fun Dn σ H ⟨env, S, O, re, so, q⟩ => by
  refine ⟨env, S, O, re, so, ?_⟩
  unfold sSeq at q
  cases e : f env S with
  | next env' S' =>
    rw [e] at q
    exact fun O' H' σ' l s r => ⟨env', S', O', r, s, PoS.le q l⟩
  | ret d S' => rw [e] at q; exact q
  | brk d S' => rw [e] at q; exact q
  | cont d S' => rw [e] at q; exact q
  | err c d S' => rw [e] at q; exact q
  | no => rw [e] at q; exact q
theorem ds_nil : DSs X T E [] sNil := ⟨pss_nil.monoZ fun Dn σ H ⟨env, S, O, re, so, q⟩ => q O H σ Le.refl so re⟩
theorem ds_cons {st : Stmt} {rest : List Stmt} {f g : BS} (h : DS X T E st f) (k : DSs X T E rest g) : DSs X T E (st :: rest) (sSeq f g) := ⟨(pss_cons h.ps k.pss).monoZ tseq⟩
theorem ds_one {st : Stmt} {f : BS} (h : DS X T E st f) : DSs X T E [st] f := ⟨pss_one h.ps⟩
theorem ds_pass {pos} : DS X T E (.Pass pos) sNil := ⟨ps_pass.monoZ fun Dn σ H ⟨env, S, O, re, so, q⟩ => q O H σ Le.refl so re⟩
theorem ds_expr {e : Expr} {f : BE} {pos} (h : DE X T E e f) (hs : swapsWith e none pos.line X.env = pure false := by rfl) : DS X T E (.Expr e pos) (sExpr f) :=
  ⟨(ps_expr h.pe hs).monoZ fun Dn σ H ⟨env, S, O, re, so, q⟩ => ⟨env, S, O, re, so, PoS.bind re q fun a S1 O1 H1 b l s r q1 => q1 O1 H1 σ Le.refl s (re.mono l)⟩⟩
theorem ds_ret {e : Expr} {f : BE} {pos} (h : DE X T E e f) : DS X T E (.Return (some e) pos) (sRet f) :=
  ⟨(ps_ret h.pe).monoZ fun Dn σ H ⟨env, S, O, re, so, q⟩ => ⟨env, S, O, re, so, PoS.bind re q fun a S1 O1 H1 b l s r q1 => q1 O1 H1 b Le.refl s r⟩⟩
theorem ds_retN {pos} : DS X T E (.Return none pos) sRetN := ⟨ps_retN.monoZ fun Dn σ H ⟨env, S, O, re, so, q⟩ => q O H .non Le.refl so .non⟩
theorem ds_if {c : Expr} {a b : List Stmt} {t : BT} {f g : BS} {pos} (hc : DT X T E c t) (ha : DSs X T E a f) (hb : DSs X T E b g) : DS X T E (.If c a b pos) (sIf t f g) :=
  ⟨(ps_if hc.pt ha.pss hb.pss).monoZ fun Dn σ H ⟨env, S, O, re, so, q⟩ => ⟨env, S, O, re, so, PoS.bind re q fun b S1 O1 H1 c l s r q1 => by
    cases r
    cases b with
    | true => exact ⟨env, S1, O1, re.mono l, s, q1⟩
    | false => exact ⟨env, S1, O1, re.mono l, s, q1⟩⟩⟩
end

/-! ### targets -/
inductive Tg where
  | name (i : Nat) | tup (ts : List Tg)
mutual
def asg (S : Store) : Tg → D → Ev → Option Ev
  | .name i, d, env => some (env.set i (some d))
  | .tup ts, .tuple ds, env => asgs S ts ds env
  | .tup ts, .list ds, env => asgs S ts ds env
  | .tup _, _, _ => none
def asgs (S : Store) : List Tg → List D → Ev → Option Ev
  | [], [], env => some env
  | t :: ts, d :: ds, env => (asg S t d env).bind fun env' => asgs S ts ds env'
  | _, _, _ => none
end
mutual
def Tg.slots : Tg → List Nat
  | .name i => [i]
  | .tup ts => Tg.slotss ts
def Tg.slotss : List Tg → List Nat
  | [] => []
  | t :: ts => t.slots ++ Tg.slotss ts
end
/-- the slots at is changed alone -/
def Only (is : List Nat) (σ σ' : L2.St) : Prop := σ'.length = σ.length ∧ ∀ i, i ∉ is → σ'[i]? = σ[i]?
theorem Only.refl (is : List Nat) (σ : L2.St) : Only is σ σ := ⟨rfl, fun _ _ => rfl⟩
theorem wipe_eq {σ σ' : L2.St} {vs : List Nat} (h : Only vs σ σ') : wipe σ' vs = wipe σ vs := by
  have key : ∀ (τ : L2.St) (is : List Nat) (i : Nat), (wipe τ is)[i]? = if i ∈ is then (if i < τ.length then some none else none) else τ[i]? := by
    intro τ is
    induction is with
    | nil => intro i; simp [wipe]
    | cons v r ih =>
      intro i
      unfold wipe
      by_cases hv : v = i
      · subst hv
        simp only [List.mem_cons, true_or, if_true]
        rw [List.getElem?_set_self']
        rw [show (wipe τ r)[v]? = _ from ih v]
        split
        · split <;> simp
        · by_cases hl : v < τ.length
          · simp [hl]
          · simp [hl]
      · rw [List.getElem?_set_ne hv, ih i]
        have : i ∈ v :: r ↔ i ∈ r := by simp [Ne.symm hv]
        simp only [this]
  apply List.ext_getElem?
  intro i
  rw [key, key]
  split
  · rw [h.1]
  · exact h.2 i (by assumption)
/-- from a tuple or a list -/
def gSq (K : PySem.W.Frag) (n : Nat) (t : TGs) : TG := fun v σ H Q => gTup K n t v σ H Q ∨ gLst K n t v σ H Q
mutual
def gT (K : PySem.W.Frag) : Tg → TG
  | .name i => gName i
  | .tup ts => gSq K ts.length (gTs K ts)
def gTs (K : PySem.W.Frag) : List Tg → TGs
  | [] => gNil
  | t :: ts => gCons (gT K t) (gTs K ts)
end
structure DG (X : Cx) (e : Expr) (t : Tg) : Prop where
  pg : PG X e (gT X.K t)
structure DGs (X : Cx) (es : List Expr) (ts : List Tg) : Prop where
  len : (assignEach es X.env).length = ts.length
  fin : (assignEach es X.env).findIdx? (·.1) = none
  pgs : PGs X es (gTs X.K ts)
theorem asgs_len {S : Store} : ∀ {ts : List Tg} {ds : List D} {env env' : Ev}, asgs S ts ds env = some env' → ds.length = ts.length
  | [], [], _, _, _ => rfl
  | [], _ :: _, _, _, h => by simp [asgs] at h
  | _ :: _, [], _, _, h => by simp [asgs] at h
  | t :: ts, d :: ds, env, env', h => by
    rw [asgs] at h
    cases q : asg S t d env with
    | none => rw [q] at h; cases h
    | some e1 =>
      rw [q] at h
      simp [asgs_len h]
section
variable {K : PySem.W.Frag} {mg : Str → Option Value} {O : Ow} {H : Hp} {S : Store}
mutual
theorem gT_ok : ∀ (t : Tg) {σ : L2.St} {v : V} {d : D} {env env' : Ev} {Q : L2.St → Hp → Prop}, REnv K mg O.cs (hide O H) σ env → Rp K mg O.cs (hide O H) v d → asg S t d env = some env' →
    (∀ σ', REnv K mg O.cs (hide O H) σ' env' → Only t.slots σ σ' → Q σ' H) → gT K t v σ H Q
  | .name i, σ, v, d, env, env', Q, re, r, e, k => by
    have e' : some (env.set i (some d)) = some env' := by rw [← e, asg]
    cases e'
    rw [gT]
    refine k _ (re.set r) ⟨by simp, fun j hj => ?_⟩
    rw [List.getElem?_set_ne (fun z => hj (by rw [Tg.slots, z]; exact List.mem_singleton_self _))]
  | .tup ts, σ, v, d, env, env', Q, re, r, e, k => by
    rw [gT]
    cases r with
    | tup hs t =>
      rw [asg] at e
      exact .inl ⟨_, _, rfl, st_le hs, by rw [t.length, asgs_len e], gTs_ok ts re t e fun σ' re' on => k σ' re' on⟩
    | lst hs t =>
      rw [asg] at e
      exact .inr ⟨_, _, rfl, .inl (.inl (hide_le hs).2.1), by rw [t.length, asgs_len e], gTs_ok ts re t e fun σ' re' on => k σ' re' on⟩
    | _ => simp [asg] at e
theorem gTs_ok : ∀ (ts : List Tg) {σ : L2.St} {vs : List V} {ds : List D} {env env' : Ev} {Q : L2.St → Hp → Prop}, REnv K mg O.cs (hide O H) σ env → Rps K mg O.cs (hide O H) vs ds → asgs S ts ds env = some env' →
    (∀ σ', REnv K mg O.cs (hide O H) σ' env' → Only (Tg.slotss ts) σ σ' → Q σ' H) → gTs K ts vs σ H Q
  | [], σ, vs, ds, env, env', Q, re, r, e, k => by
    rw [gTs]
    cases r with
    | nil =>
      have : env = env' := by simpa [asgs] using e
      subst this
      exact ⟨rfl, k σ re (Only.refl _ _)⟩
    | cons _ _ => simp [asgs] at e
  | t :: ts, σ, vs, ds, env, env', Q, re, r, ea, kk => by
    rw [gTs]
    cases r with
    | nil => simp [asgs] at ea
    | @cons v vr d dr rv rr =>
      rw [asgs] at ea
      cases q : asg S t d env with
      | none => rw [q] at ea; cases ea
      | some env1 =>
        rw [q] at ea
        refine ⟨v, vr, rfl, gT_ok t re rv q fun σ1 re1 on1 => ?_⟩
        refine gTs_ok ts re1 rr ea fun σ2 re2 on2 => kk σ2 re2 ⟨on2.1.trans on1.1, fun i hi => ?_⟩
        rw [Tg.slotss, List.mem_append, not_or] at hi
        exact (on2.2 i hi.2).trans (on1.2 i hi.1)
end
end
section
variable {X : Cx} {T : Tb} {E : XKs}
theorem dg_name (i : Nat) {x : Str} {pos} (hN : X.N.Nodup) (hi : X.N[i]? = some x := by rfl) (hx : Loc X.env.scope x := by first | exact Or.inl rfl | exact Or.inr rfl) (hf : X.fn x = true ∨ X.env.scope.names.lookup x = some .local := by first | exact .inl rfl | exact .inr rfl) : DG X (.Name x pos) (.name i) :=
  ⟨by rw [gT]; exact pg_name hN hi hx hf⟩
theorem dgs_nil : DGs X [] [] := ⟨rfl, rfl, by rw [gTs]; exact pgs_nil⟩
theorem dgs_cons {e : Expr} {es : List Expr} {t : Tg} {ts : List Tg} (h : DG X e t) (k : DGs X es ts) (h1 : assignEach (e :: es) X.env = (false, assign e X.env) :: assignEach es X.env := by rfl) : DGs X (e :: es) (t :: ts) :=
  ⟨by rw [h1]; simp [k.len], by rw [h1, List.findIdx?_cons]; simp [k.fin], by rw [gTs]; exact pgs_cons h.pg k.pgs (by rw [h1]; rfl)⟩
theorem pg_sq {es : List Expr} {k : Nat} {t : TGs} {n : Nat} {pos} (hc : X.calm = true) (h : PGs X es t)
    (hn : (assignEach es X.env).length = n) (hst : (assignEach es X.env).findIdx? (·.1) = none) : PG X (.Tuple es k pos) (gSq X.K n t) :=
  ⟨fun pins s σ H v u Q I r hw => by
    rcases hw with hw | hw
    · exact (pg_tup hc h hn hst).run pins s σ H v u Q I r hw
    · exact (pg_lst hc h hn hst).run pins s σ H v u Q I r hw⟩
theorem dg_tup {es : List Expr} {ts : List Tg} {k : Nat} {pos} (hc : X.calm = true) (h : DGs X es ts) : DG X (.Tuple es k pos) (.tup ts) :=
  ⟨by rw [gT]; exact pg_sq hc h.pgs h.len h.fin⟩
end

/-! ### assignments -/
def sAsg (t : Tg) (f : BE) : BS := fun env S => thenS (f env S) env fun a S' => match asg S' t a env with
  | some env' => .next env' S'
  | none => .no
def sSet (i : Nat) (f : BE) : BS := fun env S => thenS (f env S) env fun a S' => .next (env.set i (some a)) S'
section
variable {X : Cx} {T : Tb} {E : XKs}
theorem ds_asg {tg e : Expr} {t : Tg} {f : BE} {pos} (he : DE X T E e f) (hg : DG X tg t) (hs : swapsWithSole [tg] e pos.line X.env = pure false := by rfl) (hw : swappedStores [tg] e X.env = pure none := by rfl)
    (h1 : (assignEach [tg] X.env).map (·.2) = [assign tg X.env] := by rfl) : DS X T E (.Assign [tg] e pos) (sAsg t f) := by
  refine ⟨(ps_asg he.pe hg.pg hs hw h1).monoZ fun Dn σ H ⟨env, S, O, re, so, q⟩ => ⟨env, S, O, re, so, PoS.bind re q fun a S1 O1 H1 b l s r q1 => ?_⟩⟩
  cases e1 : asg S1 t a env with
  | none => rw [e1] at q1; exact q1.elim
  | some env' =>
    rw [e1] at q1
    exact gT_ok t (re.mono l) r e1 fun σ' re' _ => q1 O1 H1 σ' Le.refl s re'
theorem ds_set (i : Nat) {x : Str} {e : Expr} {f : BE} {pos pos'} (hN : X.N.Nodup) (he : DE X T E e f) (hi : X.N[i]? = some x := by rfl) (hx : Loc X.env.scope x := by first | exact Or.inl rfl | exact Or.inr rfl) (hs : swapsWith e (some (.Name x pos')) pos.line X.env = pure false := by rfl)
    (hf : X.fn x = true ∨ X.env.scope.names.lookup x = some .local := by first | exact .inl rfl | exact .inr rfl) : DS X T E (.Assign [.Name x pos'] e pos) (sSet i f) :=
  ⟨(ps_set hN hi hx he.pe hs hf).monoZ fun Dn σ H ⟨env, S, O, re, so, q⟩ => ⟨env, S, O, re, so, PoS.bind re q fun a S1 O1 H1 b l s r q1 => q1 O1 H1 _ Le.refl s ((re.mono l).set r)⟩⟩
/-- a, b = x, y of plain locals: the stores are swapped, the pair is not made -/
def sPar (i j : Nat) (f g : BE) : BS := fun env S => thenS (f env S) env fun a S1 => thenS (g env S1) env fun b S2 => .next ((env.set i (some a)).set j (some b)) S2
theorem ds_par (i j : Nat) {x y : Str} {a b : Expr} {f g : BE} {px py pt pos : Pos} {kt k2 pt2} (hc : X.calm = true) (hN : X.N.Nodup) (ha : DE X T E a f) (hb : DE X T E b g)
    (hi : X.N[i]? = some x := by rfl) (hj : X.N[j]? = some y := by rfl) (hij : i ≠ j := by decide)
    (hx : X.env.scope.names.lookup x = some .local := by rfl) (hy : X.env.scope.names.lookup y = some .local := by rfl)
    (hw : swappedStores [.Tuple [.Name x px, .Name y py] kt pt] (.Tuple [a, b] k2 pt2) X.env = pure (some [x, y]) := by rfl)
    (hs : swapsWithSole [.Tuple [.Name x px, .Name y py] kt pt] (.Tuple [a, b] k2 pt2) pos.line X.env = pure false := by rfl)
    (h1 : starEach [a, b] X.env = (false, eval a X.env) :: starEach [b] X.env := by rfl) (h2 : starEach [b] X.env = [(false, eval b X.env)] := by rfl) :
    DS X T E (.Assign [.Tuple [.Name x px, .Name y py] kt pt] (.Tuple [a, b] k2 pt2) pos) (sPar i j f g) :=
  ⟨(ps_par hc hN hi hj hij hx hy (da_cons ha (da_cons hb da_nil (by rw [h2]; rfl)) h1).pa hw hs).monoZ fun Dn σ H ⟨env, S, O, re, so, q⟩ => ⟨env, S, O, re, so, by
    unfold sPar at q
    show Po _ _ _ _ ((f env >>= fun a => (g env >>= fun as => pure [as]) >>= fun as => pure (a :: as)) S) O H _ _
    rw [bd_ap]
    cases e1 : f env S with
    | err c S1 =>
      rw [e1] at q
      exact fun O1 H1 C l s e => q O1 H1 σ C l s (re.mono l) e
    | no => rw [e1] at q; exact q
    | ok a S1 =>
      rw [e1] at q
      dsimp only [thenS] at q ⊢
      rw [bd_ap, bd_ap]
      cases e2 : g env S1 with
      | err c S2 =>
        rw [e2] at q
        exact fun O1 H1 C l s e => q O1 H1 σ C l s (re.mono l) e
      | no => rw [e2] at q; exact q
      | ok b S2 =>
        rw [e2] at q
        dsimp only [pure_ap] at q ⊢
        intro O1 H1 vs l s r
        cases r with
        | cons r1 r2 =>
          cases r2 with
          | cons r2 r3 =>
            cases r3
            exact ⟨_, _, rfl, q O1 H1 _ l s (((re.mono l).set r1).set r2)⟩⟩⟩
end
end Z
end
section
set_option maxHeartbeats 4000000
namespace Z
open PySem PySem.Spec PyProof.Rows L2

/-! ### equality -/
mutual
def eqD : D → D → Bool
  | .none, .none => true
  | .bool a, .bool b => a == b
  | .bool a, .int j => (if a then 1 else 0) == j
  | .int i, .bool b => i == (if b then 1 else 0)
  | .int i, .int j => i == j
  | .str x, .str y => x == y
  | .list xs, .list ys => eqDs xs ys
  | .tuple xs, .tuple ys => eqDs xs ys
  | _, _ => false
def eqDs : List D → List D → Bool
  | [], [] => true
  | x :: xs, y :: ys => eqD x y && eqDs xs ys
  | _, _ => false
end
mutual
/-- plain data, nested at most n deep -/
def okD : Nat → D → Bool
  | _, .none => true
  | _, .bool _ => true
  | _, .int _ => true
  | _, .str x => PyData.strOk x
  | n + 1, .list xs => okDs n xs
  | n + 1, .tuple xs => okDs n xs
  | _, _ => false
def okDs : Nat → List D → Bool
  | _, [] => true
  | n, x :: xs => okD n x && okDs n xs
end
mutual
def py : D → PyData
  | .none => .none
  | .bool b => .bool b
  | .int i => .int i
  | .str x => .str x
  | .list xs => .list (pys xs)
  | .tuple xs => .tuple (pys xs)
  | .cell _ => .none
  | .fn _ => .none
  | .adr _ => .none
  | .frz _ => .none
def pys : List D → List PyData
  | [] => []
  | x :: xs => py x :: pys xs
end
mutual
theorem okD_mono {m n : Nat} (h : m ≤ n) : ∀ d : D, okD m d = true → okD n d = true
  | .none, _ => by cases n <;> rfl
  | .bool _, _ => by cases n <;> rfl
  | .int _, _ => by cases n <;> rfl
  | .str x, e => by
    have e' : PyData.strOk x = true := by cases m <;> exact e
    cases n <;> exact e'
  | .list xs, e => by
    cases m with
    | zero => simp [okD] at e
    | succ m =>
      cases n with
      | zero => omega
      | succ n => exact okDs_mono (by omega) xs e
  | .tuple xs, e => by
    cases m with
    | zero => simp [okD] at e
    | succ m =>
      cases n with
      | zero => omega
      | succ n => exact okDs_mono (by omega) xs e
  | .cell _, e => by cases m <;> simp [okD] at e
  | .fn _, e => by cases m <;> simp [okD] at e
  | .adr _, e => by cases m <;> simp [okD] at e
  | .frz _, e => by cases m <;> simp [okD] at e
theorem okDs_mono {m n : Nat} (h : m ≤ n) : ∀ ds : List D, okDs m ds = true → okDs n ds = true
  | [], _ => by cases n <;> rfl
  | x :: xs, e => by
    have e' : (okD m x && okDs m xs) = true := by cases m <;> exact e
    rw [Bool.and_eq_true] at e'
    have r : (okD n x && okDs n xs) = true := by rw [okD_mono h x e'.1, okDs_mono h xs e'.2]; rfl
    cases n <;> exact r
end
theorem okDs_cons {n : Nat} {x : D} {xs : List D} : okDs n (x :: xs) = (okD n x && okDs n xs) := by cases n <;> rfl
mutual
theorem ok_py {n : Nat} : ∀ d : D, okD n d = true → PyData.canLay0 (py d) = true ∧ PyData.depth (py d) ≤ n
  | .none, _ => by simp [py, PyData.canLay0, PyData.depth]
  | .bool _, _ => by simp [py, PyData.canLay0, PyData.depth]
  | .int _, _ => by simp [py, PyData.canLay0, PyData.depth]
  | .str x, e => by
    have e' : PyData.strOk x = true := by cases n <;> exact e
    simp [py, PyData.canLay0, PyData.depth, e']
  | .list xs, e => by
    cases n with
    | zero => simp [okD] at e
    | succ n =>
      have := ok_pys xs (show okDs n xs = true from e)
      simp only [py, PyData.canLay0, PyData.depth]
      exact ⟨this.1, by omega⟩
  | .tuple xs, e => by
    cases n with
    | zero => simp [okD] at e
    | succ n =>
      have := ok_pys xs (show okDs n xs = true from e)
      simp only [py, PyData.canLay0, PyData.depth]
      exact ⟨this.1, by omega⟩
  | .cell _, e => by cases n <;> simp [okD] at e
  | .fn _, e => by cases n <;> simp [okD] at e
  | .adr _, e => by cases n <;> simp [okD] at e
  | .frz _, e => by cases n <;> simp [okD] at e
theorem ok_pys {n : Nat} : ∀ ds : List D, okDs n ds = true → PyData.canLayAll0 (pys ds) = true ∧ PyData.depthAll (pys ds) ≤ n
  | [], _ => by simp [pys, PyData.canLayAll0, PyData.depthAll]
  | x :: xs, e => by
    rw [okDs_cons, Bool.and_eq_true] at e
    have h1 := ok_py x e.1
    have h2 := ok_pys xs e.2
    simp only [pys, PyData.canLayAll0, PyData.depthAll]
    exact ⟨by rw [h1.1, h2.1]; rfl, by omega⟩
end
theorem ok_shaped {d : D} (h : okD 64 d = true) : SeqAt.shaped (py d) = true := by
  have := ok_py d h
  show (PyData.canLay0 (py d) && decide (PyData.depth (py d) ≤ 64)) = true
  rw [this.1, decide_eq_true this.2]
  rfl
mutual
theorem eq_py {n : Nat} : ∀ a b : D, okD n a = true → okD n b = true → PyData.eqv (py a) (py b) = eqD a b
  | .none, b, _, hb => by cases b <;> simp [py, PyData.eqv, eqD, okD] at *
  | .bool _, b, _, hb => by cases b <;> simp [py, PyData.eqv, eqD, okD] at *
  | .int _, b, _, hb => by cases b <;> simp [py, PyData.eqv, eqD, okD] at *
  | .str _, b, _, hb => by cases b <;> simp [py, PyData.eqv, eqD, okD] at *
  | .list xs, b, ha, hb => by
    cases b with
    | list ys =>
      cases n with
      | zero => simp [okD] at ha
      | succ n =>
        simp only [py, PyData.eqv, eqD]
        exact eq_pys xs ys ha hb
    | cell _ => cases n <;> simp [okD] at hb
    | fn _ => cases n <;> simp [okD] at hb
    | adr _ => cases n <;> simp [okD] at hb
    | frz _ => cases n <;> simp [okD] at hb
    | _ => simp [py, PyData.eqv, eqD]
  | .tuple xs, b, ha, hb => by
    cases b with
    | tuple ys =>
      cases n with
      | zero => simp [okD] at ha
      | succ n =>
        simp only [py, PyData.eqv, eqD]
        exact eq_pys xs ys ha hb
    | cell _ => cases n <;> simp [okD] at hb
    | fn _ => cases n <;> simp [okD] at hb
    | adr _ => cases n <;> simp [okD] at hb
    | frz _ => cases n <;> simp [okD] at hb
    | _ => simp [py, PyData.eqv, eqD]
  | .cell _, _, ha, _ => by cases n <;> simp [okD] at ha
  | .fn _, _, ha, _ => by cases n <;> simp [okD] at ha
  | .adr _, _, ha, _ => by cases n <;> simp [okD] at ha
  | .frz _, _, ha, _ => by cases n <;> simp [okD] at ha
theorem eq_pys {n : Nat} : ∀ a b : List D, okDs n a = true → okDs n b = true → PyData.eqvAll (pys a) (pys b) = eqDs a b
  | [], [], _, _ => by simp [pys, PyData.eqvAll, eqDs]
  | [], _ :: _, _, _ => by simp [pys, PyData.eqvAll, eqDs]
  | _ :: _, [], _, _ => by simp [pys, PyData.eqvAll, eqDs]
  | x :: xs, y :: ys, ha, hb => by
    rw [okDs_cons, Bool.and_eq_true] at ha hb
    simp only [pys, PyData.eqvAll, eqDs]
    rw [eq_py x y ha.1 hb.1, eq_pys xs ys ha.2 hb.2]
end
section
variable {K : PySem.W.Frag} {mg : Str → Option Value} {O : List Addr} {G : Hp}
mutual
theorem dp_of {n : Nat} : ∀ {d : D} {v : V}, Rp K mg O G v d → okD n d = true → Dp K G v (py d)
  | _, _, .non, _ => by rw [py]; exact .non
  | _, _, .bl b, _ => by rw [py]; exact .bl b
  | _, _, .int i, _ => by rw [py]; exact .int i
  | _, _, .str x, _ => by rw [py]; exact .str x
  | _, _, .lst h t, e => by
    cases n with
    | zero => simp [okD] at e
    | succ n =>
      rw [py]
      exact .lst (.inl (.inl h)) (dps_of t (show okDs n _ = true from e))
  | _, _, .tup h t, e => by
    cases n with
    | zero => simp [okD] at e
    | succ n =>
      rw [py]
      exact .tup h (dps_of t (show okDs n _ = true from e))
  | _, _, .cell _, e => by cases n <;> simp [okD] at e
  | _, _, .fn _, e => by cases n <;> simp [okD] at e
  | _, _, .adr _, e => by cases n <;> simp [okD] at e
  | _, _, .frz _ _, e => by cases n <;> simp [okD] at e
theorem dps_of {n : Nat} : ∀ {ds : List D} {vs : List V}, Rps K mg O G vs ds → okDs n ds = true → DpAll K G vs (pys ds)
  | _, _, .nil, _ => by rw [pys]; exact .nil
  | _, _, .cons h t, e => by
    rw [okDs_cons, Bool.and_eq_true] at e
    rw [pys]
    exact .cons (dp_of h e.1) (dps_of t e.2)
end
mutual
theorem Dp.same {H H' : Hp} (s : Same H H') : ∀ {d : PyData} {v : V}, Dp K H v d → Dp K H' v d
  | _, _, .non => .non
  | _, _, .bl b => .bl b
  | _, _, .int i => .int i
  | _, _, .str x => .str x
  | _, _, .lst h t => .lst (s.seq h) (DpAll.same s t)
  | _, _, .tup h t => .tup (Same.seqT s h) (DpAll.same s t)
theorem DpAll.same {H H' : Hp} (s : Same H H') : ∀ {d : List PyData} {v : List V}, DpAll K H v d → DpAll K H' v d
  | _, _, .nil => .nil
  | _, _, .cons h t => .cons (Dp.same s h) (DpAll.same s t)
end
end

/-! ### what a value shows -/
/-- the list that a cell holds now -/
def rd (d : D) : M D := fun S => match d with
  | .cell n => match S[n]? with
    | some (.lst ds) => .ok (.list ds) S
    | .none => .no
  | d => .ok d S
section
variable (K : PySem.W.Frag) (mg : Str → Option Value) (O : Ow) (H : Hp)
inductive Seen : V → D → Prop
  | of {v : V} {d : D} : Rp K mg O.cs (hide O H) v d → (∀ n, d ≠ .cell n) → Seen v d
  | cell {a : Addr} {vs : List V} {ds : List D} : H a = some (.lst vs) → Rps K mg O.cs (hide O H) vs ds → Seen (.ref a) (.list ds)
end
section
variable {K : PySem.W.Frag} {mg : Str → Option Value} {T : Tb} {O : Ow} {H : Hp} {S : Store}
theorem rd_ok {d d' : D} {v : V} {S' : Store} (so : SOk K mg T O H S) (r : Rp K mg O.cs (hide O H) v d) (e : rd d S = .ok d' S') : Seen K mg O H v d' ∧ S' = S := by
  cases r with
  | cell h =>
    unfold rd at e
    dsimp only at e
    split at e
    · rename_i ds hs
      cases e
      obtain ⟨vs, h1, h2⟩ := sok_cell so h hs
      exact ⟨.cell h1 h2, rfl⟩
    · cases e
  | non => cases e; exact ⟨.of .non (by intro n z; cases z), rfl⟩
  | bl b => cases e; exact ⟨.of (.bl b) (by intro n z; cases z), rfl⟩
  | int b => cases e; exact ⟨.of (.int b) (by intro n z; cases z), rfl⟩
  | str b => cases e; exact ⟨.of (.str b) (by intro n z; cases z), rfl⟩
  | lst h t => cases e; exact ⟨.of (.lst h t) (by intro n z; cases z), rfl⟩
  | tup h t => cases e; exact ⟨.of (.tup h t) (by intro n z; cases z), rfl⟩
  | frz h t => cases e; exact ⟨.of (.frz h t) (by intro n z; cases z), rfl⟩
  | fn h => cases e; exact ⟨.of (.fn h) (by intro n z; cases z), rfl⟩
  | adr h => cases e; exact ⟨.of (.adr h) (by intro n z; cases z), rfl⟩
theorem rd_po {α β : Type} {R : List Addr → Hp → β → α → Prop} {d : D} {v : V} {f : D → M α} {Q : β → Hp → Prop} {E : XK} (so : SOk K mg T O H S) (r : Rp K mg O.cs (hide O H) v d) (h : Po K mg T R ((rd d >>= f) S) O H Q E) :
    ∃ d', Seen K mg O H v d' ∧ Po K mg T R (f d' S) O H Q E := by
  rw [bd_ap] at h
  cases e : rd d S with
  | no => rw [e] at h; exact h.elim
  | err c S' =>
    exfalso
    unfold rd at e
    split at e
    · split at e <;> cases e
    · cases e
  | ok d' S' =>
    rw [e] at h
    obtain ⟨h1, rfl⟩ := rd_ok so r e
    exact ⟨d', h1, h⟩
theorem same_hide : ∀ b o, hide O H b = some o → H b = some o := fun b o e => (hide_le e).2.1
theorem Seen.list {v : V} {ds : List D} (h : Seen K mg O H v (.list ds)) : ∃ a vs, v = .ref a ∧ H a = some (.lst vs) ∧ Rps K mg O.cs (hide O H) vs ds := by
  cases h with
  | of r _ => cases r with
    | lst h t => exact ⟨_, _, rfl, (hide_le h).2.1, t⟩
  | cell h t => exact ⟨_, _, rfl, h, t⟩
theorem Seen.tuple {v : V} {ds : List D} (h : Seen K mg O H v (.tuple ds)) : ∃ a vs, v = .ref a ∧ SqT K H a vs ∧ Rps K mg O.cs (hide O H) vs ds ∧ Rp K mg O.cs (hide O H) v (.tuple ds) := by
  cases h with
  | of r _ => cases r with
    | tup h t => exact ⟨_, _, rfl, st_le h, t, .tup h t⟩
theorem Seen.frz {v : V} {ds : List D} (h : Seen K mg O H v (.frz ds)) : ∃ a vs, v = .ref a ∧ SqL K H a vs ∧ Rps K mg O.cs (hide O H) vs ds := by
  cases h with
  | of r _ => cases r with
    | frz h t => exact ⟨_, _, rfl, sl_le h, t⟩
theorem Seen.int {v : V} {i : Int} (h : Seen K mg O H v (.int i)) : v = .int i := by
  cases h with
  | of r _ => cases r; rfl
theorem Seen.bl {v : V} {i : Bool} (h : Seen K mg O H v (.bool i)) : v = .bl i := by
  cases h with
  | of r _ => cases r; rfl
theorem Seen.str {v : V} {i : Str} (h : Seen K mg O H v (.str i)) : v = .str i := by
  cases h with
  | of r _ => cases r; rfl
theorem Seen.non {v : V} (h : Seen K mg O H v .none) : v = .non := by
  cases h with
  | of r _ => cases r; rfl
theorem Seen.dp {v : V} {d : D} {n : Nat} (h : Seen K mg O H v d) (e : okD n d = true) : Dp K H v (py d) := by
  cases h with
  | of r _ => exact Dp.same same_hide (dp_of r e)
  | cell h t =>
    cases n with
    | zero => simp [okD] at e
    | succ n =>
      rw [py]
      exact .lst (.inl (.inl h)) (DpAll.same same_hide (dps_of t (show okDs n _ = true from e)))
end
/-- two values seen -/
def g2 (g : D → D → M D) : D → D → M D := fun a b => rd a >>= fun a' => rd b >>= fun b' => g a' b'
def OpS (X : Cx) (T : Tb) (r : R2) (g : D → D → M D) : Prop := ∀ O H S x y a b Q E, SOk X.K X.mg T O H S → Seen X.K X.mg O H x a → Seen X.K X.mg O H y b → Po X.K X.mg T (Rp X.K X.mg) (g a b S) O H Q E → r x y H Q
theorem OpS.op {X : Cx} {T : Tb} {r : R2} {g : D → D → M D} (h : OpS X T r g) : Op2 X T r (g2 g) := fun O H S x y a b Q E so ra rb q => by
  obtain ⟨a', sa, q1⟩ := rd_po so ra q
  obtain ⟨b', sb, q2⟩ := rd_po so rb q1
  exact h O H S x y a' b' Q E so sa sb q2
def g1 (g : D → M D) : D → M D := fun a => rd a >>= g
def UnS (X : Cx) (T : Tb) (r : V → Hp → VK → Prop) (g : D → M D) : Prop := ∀ O H S x a Q E, SOk X.K X.mg T O H S → Seen X.K X.mg O H x a → Po X.K X.mg T (Rp X.K X.mg) (g a S) O H Q E → r x H Q
theorem UnS.op {X : Cx} {T : Tb} {r : V → Hp → VK → Prop} {g : D → M D} (h : UnS X T r g) : Op1 X T r (g1 g) := fun O H S x a Q E so ra q => by
  obtain ⟨a', sa, q1⟩ := rd_po so ra q
  exact h O H S x a' Q E so sa q1

/-! ### the operators -/
def gEq (a b : D) : M D := if okD 64 a = true ∧ okD 64 b = true then pure (.bool (eqD a b)) else no
def gNe (a b : D) : M D := if okD 64 a = true ∧ okD 64 b = true then pure (.bool (!eqD a b)) else no
def b2n (b : Bool) : Int := if b = true then 1 else 0
def gAdd (a b : D) : M D := match a, b with
  | .int i, .int j => pure (.int (i + j))
  | .bool i, .int j => pure (.int (b2n i + j))
  | .str x, .str y => if x.length + y.length ≤ 1000000 then pure (.str (x ++ y)) else no
  | .tuple xs, .tuple ys => if xs.length + ys.length ≤ 1000000 then pure (.tuple (xs ++ ys)) else no
  | .list xs, .list ys => if xs.length + ys.length ≤ 1000000 then pure (.list (xs ++ ys)) else no
  | _, _ => no
def gSub (a b : D) : M D := match a, b with
  | .int i, .int j => pure (.int (i - j))
  | .bool i, .int j => pure (.int (b2n i - j))
  | _, _ => no
def small (i : Int) : Bool := decide (i.natAbs < 2 ^ 4000)
def gMul (a b : D) : M D := match a, b with
  | .int i, .int j => if small i = true ∧ small j = true then pure (.int (i * j)) else no
  | _, _ => no
def gDiv (a b : D) : M D := match a, b with
  | .int i, .int j => if 0 < j ∧ small j = true then pure (.int (i / j)) else no
  | _, _ => no
def gMod (a b : D) : M D := match a, b with
  | .int i, .int j => if 0 < j then pure (.int (i % j)) else no
  | _, _ => no
def gCmp (p : Int → Int → Bool) (a b : D) : M D := match a, b with
  | .int i, .int j => pure (.bool (p i j))
  | _, _ => no
abbrev gLt := gCmp fun i j => decide (i < j)
abbrev gLe := gCmp fun i j => decide (i ≤ j)
abbrev gGt := gCmp fun i j => decide (j < i)
abbrev gGe := gCmp fun i j => decide (j ≤ i)
def gNeg (a : D) : M D := match a with
  | .int i => pure (.int (-i))
  | _ => no
theorem small_lt {i : Int} (h : small i = true) : i.natAbs < 2 ^ 4000 := of_decide_eq_true h
section
variable {X : Cx} {T : Tb}
theorem op_or {f : Value → Value → Sem Value} {r r' : R2} (h : OpR X f r) (h' : OpR X f r') : OpR X f (fun x y H Q => r x y H Q ∨ r' x y H Q) := OpR.or h h'
theorem s_eq : OpS X T (rEqD X.K) gEq := fun O H S x y a b Q E so sa sb q => by
  unfold gEq at q
  split at q
  · rename_i h
    exact ⟨_, _, sa.dp h.1, sb.dp h.2, ok_shaped h.1, ok_shaped h.2, by rw [eq_py a b h.1 h.2]; exact q O H _ Le.refl so (.bl _)⟩
  · exact q.elim
theorem s_ne : OpS X T (rNeD X.K) gNe := fun O H S x y a b Q E so sa sb q => by
  unfold gNe at q
  split at q
  · rename_i h
    exact ⟨_, _, sa.dp h.1, sb.dp h.2, ok_shaped h.1, ok_shaped h.2, by rw [eq_py a b h.1 h.2]; exact q O H _ Le.refl so (.bl _)⟩
  · exact q.elim
def rBlI (g : Int → Int → Int) : R2 := fun x y H Q => ∃ i j, x = .bl i ∧ y = .int j ∧ Q (.int (g (b2n i) j)) H
theorem op_addBI : OpR X (binaryOp .Add) (rBlI (· + ·)) := by
  intro pins s σ H x y v u Q I rx ry h
  obtain ⟨i, j, rfl, rfl, q⟩ := h
  cases rx
  obtain ⟨t, rfl⟩ := ry
  exact PySem.IntBool.add_bool_int ⟨.int (b2n i + j), H, I.tok _, ⟨_, rfl⟩, q⟩
theorem op_subBI : OpR X (binaryOp .Sub) (rBlI (· - ·)) := by
  intro pins s σ H x y v u Q I rx ry h
  obtain ⟨i, j, rfl, rfl, q⟩ := h
  cases rx
  obtain ⟨t, rfl⟩ := ry
  exact PySem.IntBool.sub_bool_int ⟨.int (b2n i - j), H, I.tok _, ⟨_, rfl⟩, q⟩
def rSubZ : R2 := fun x y H Q => rI0 (fun i j => .int (i - j)) x y H Q ∨ rBlI (· - ·) x y H Q
theorem op_subZ : OpR X (binaryOp .Sub) rSubZ := OpR.or op_sub op_subBI
def rAddZ (K : PySem.W.Frag) : R2 := fun x y H Q => ((rI0 (fun i j => .int (i + j)) x y H Q ∨ rBlI (· + ·) x y H Q) ∨ (∃ i j, x = .str i ∧ y = .str j ∧ i.length + j.length ≤ sizeLine ∧ Q (.str (i ++ j)) H)) ∨ (rCatA K x y H Q ∨ rCat x y H Q)
theorem op_addZ : OpR X (binaryOp .Add) (rAddZ X.K) := OpR.or (OpR.or (OpR.or op_add op_addBI) op_add_str) (OpR.or op_catA op_cat)
theorem cat_goal {O : Ow} {H : Hp} {S : Store} {a b : Addr} {vs us : List V} {xs ys : List D} {Q : VK} {Ex : XK} (so : SOk X.K X.mg T O H S) (t1 : Rps X.K X.mg O.cs (hide O H) vs xs) (t2 : Rps X.K X.mg O.cs (hide O H) us ys)
    (ra : Rp X.K X.mg O.cs (hide O H) (.ref a) (.tuple xs)) (rb : Rp X.K X.mg O.cs (hide O H) (.ref b) (.tuple ys)) (q : Po X.K X.mg T (Rp X.K X.mg) (.ok (.tuple (xs ++ ys)) S) O H Q Ex) :
    (vs = [] → Q (.ref b) H) ∧ (vs ≠ [] → us = [] → Q (.ref a) H) ∧ (vs ≠ [] → us ≠ [] → ∀ p, H p = none → Q (.ref p) (upd H p (.tup (vs ++ us)))) := by
  refine ⟨fun e => ?_, fun _ e => ?_, fun _ _ => new_tup so (t1.app t2) q⟩
  · subst e
    cases t1
    exact q O H _ Le.refl so rb
  · subst e
    cases t2
    rw [List.append_nil] at q
    exact q O H _ Le.refl so ra
theorem s_add : OpS X T (rAddZ X.K) gAdd := fun O H S x y a b Q E so sa sb q => by
  unfold gAdd at q
  split at q
  · exact .inl (.inl (.inl ⟨_, _, sa.int, sb.int, q O H _ Le.refl so (.int _)⟩))
  · exact .inl (.inl (.inr ⟨_, _, sa.bl, sb.int, q O H _ Le.refl so (.int _)⟩))
  · split at q
    · rename_i h
      exact .inl (.inr ⟨_, _, sa.str, sb.str, small_len h, q O H _ Le.refl so (.str _)⟩)
    · exact q.elim
  · split at q
    · rename_i h
      obtain ⟨p1, v1, rfl, h1, t1, r1⟩ := sa.tuple
      obtain ⟨p2, v2, rfl, h2, t2, r2⟩ := sb.tuple
      exact .inr (.inl ⟨_, _, _, _, rfl, rfl, h1, h2, by rw [t1.length, t2.length]; exact small_len h, cat_goal so t1 t2 r1 r2 q⟩)
    · exact q.elim
  · split at q
    · rename_i h
      obtain ⟨p1, v1, rfl, h1, t1⟩ := sa.list
      obtain ⟨p2, v2, rfl, h2, t2⟩ := sb.list
      exact .inr (.inr ⟨_, _, _, _, rfl, rfl, h1, h2, by rw [t1.length, t2.length]; exact small_len h, new_lst so (t1.app t2) q⟩)
    · exact q.elim
  · exact q.elim
/-- + of two lists, the new one going to change -/
def gAddC (a b : D) : M D := match a, b with
  | .list xs, .list ys => if xs.length + ys.length ≤ 1000000 then newCell (xs ++ ys) else no
  | _, _ => no
theorem s_addC : OpS X T rCat gAddC := fun O H S x y a b Q E so sa sb q => by
  unfold gAddC at q
  split at q
  · rename_i xs ys
    by_cases h : xs.length + ys.length ≤ 1000000
    · rw [if_pos h] at q
      obtain ⟨p1, v1, rfl, h1, t1⟩ := sa.list
      obtain ⟨p2, v2, rfl, h2, t2⟩ := sb.list
      exact ⟨_, _, _, _, rfl, rfl, h1, h2, by rw [t1.length, t2.length]; exact small_len h, new_cell so (t1.app t2) q⟩
    · rw [if_neg h] at q
      exact q.elim
  · exact q.elim
theorem s_sub : OpS X T rSubZ gSub := fun O H S x y a b Q E so sa sb q => by
  unfold gSub at q
  split at q
  · exact .inl ⟨_, _, sa.int, sb.int, q O H _ Le.refl so (.int _)⟩
  · exact .inr ⟨_, _, sa.bl, sb.int, q O H _ Le.refl so (.int _)⟩
  · exact q.elim
theorem s_mul : OpS X T (rI CMulW fun i j => .int (i * j)) gMul := fun O H S x y a b Q E so sa sb q => by
  unfold gMul at q
  split at q
  · split at q
    · rename_i h
      exact ⟨_, _, sa.int, sb.int, wide_mul (small_lt h.1) (small_lt h.2) (by decide) (by decide) (by decide), q O H _ Le.refl so (.int _)⟩
    · exact q.elim
  · exact q.elim
theorem s_div : OpS X T (rI CDivW fun i j => .int (i / j)) gDiv := fun O H S x y a b Q E so sa sb q => by
  unfold gDiv at q
  split at q
  · split at q
    · rename_i h
      exact ⟨_, _, sa.int, sb.int, wide_div h.1 (small_lt h.2) (by decide) (by decide), q O H _ Le.refl so (.int _)⟩
    · exact q.elim
  · exact q.elim
theorem s_mod : OpS X T (rI (fun _ j => 0 < j) fun i j => .int (i % j)) gMod := fun O H S x y a b Q E so sa sb q => by
  unfold gMod at q
  split at q
  · split at q
    · rename_i h
      exact ⟨_, _, sa.int, sb.int, h, q O H _ Le.refl so (.int _)⟩
    · exact q.elim
  · exact q.elim
theorem s_cmp {p : Int → Int → Bool} : OpS X T (rI0 fun i j => .bl (p i j)) (gCmp p) := fun O H S x y a b Q E so sa sb q => by
  unfold gCmp at q
  split at q
  · exact ⟨_, _, sa.int, sb.int, q O H _ Le.refl so (.bl _)⟩
  · exact q.elim
theorem s_neg : UnS X T (rU fun i => .int (-i)) gNeg := fun O H S x a Q E so sa q => by
  unfold gNeg at q
  split at q
  · exact ⟨_, sa.int, q O H _ Le.refl so (.int _)⟩
  · exact q.elim
end

/-! ### in, is -/
def gIn (neg : Bool) (a b : D) : M D := match b with
  | .list xs => if okD 64 a = true ∧ okDs 63 xs = true then pure (.bool (neg ^^ xs.any fun z => eqD z a)) else no
  | .tuple xs => if okD 0 a = true ∧ okDs 0 xs = true then pure (.bool (neg ^^ xs.any fun z => eqD z a)) else no
  | .str y => (match a with
    | .str x => pure (.bool (neg ^^ !(Builtin.Str.occurrences y x 0 y.length 1).isEmpty))
    | _ => no)
  | _ => no
theorem any_py {n : Nat} {a : D} (ha : okD n a = true) : ∀ {xs : List D}, okDs n xs = true → (pys xs).any (fun z => PyData.eqv z (py a)) = xs.any fun z => eqD z a
  | [], _ => rfl
  | x :: xs, h => by
    rw [okDs_cons, Bool.and_eq_true] at h
    simp only [pys, List.any_cons]
    rw [eq_py x a h.1 ha, any_py ha h.2]
section
variable {K : PySem.W.Frag} {mg : Str → Option Value} {O : List Addr} {G : Hp}
theorem flat_of {d : D} {v : V} (r : Rp K mg O G v d) (h : okD 0 d = true) : flatV v = true := by
  cases r <;> first | rfl | simp [okD] at h
theorem flats_of : ∀ {ds : List D} {vs : List V}, Rps K mg O G vs ds → okDs 0 ds = true → vs.all flatV = true
  | _, _, .nil, _ => rfl
  | _, _, .cons r t, h => by
    rw [okDs_cons, Bool.and_eq_true] at h
    rw [List.all_cons, flat_of r h.1, flats_of t h.2]
    rfl
theorem eqV_of {d e : D} {v u : V} (r : Rp K mg O G v d) (s : Rp K mg O G u e) (h : okD 0 d = true) (k : okD 0 e = true) : eqV v u = eqD d e := by
  cases r <;> cases s <;> first
    | rfl
    | (simp [okD] at h; done)
    | (simp [okD] at k; done)
    | (simp [eqV, eqD]; done)
theorem inV_of {e : D} {u : V} (s : Rp K mg O G u e) (k : okD 0 e = true) : ∀ {ds : List D} {vs : List V}, Rps K mg O G vs ds → okDs 0 ds = true → inV u vs = ds.any fun z => eqD z e
  | _, _, .nil, _ => rfl
  | _, _, .cons r t, h => by
    rw [okDs_cons, Bool.and_eq_true] at h
    have ih := inV_of s k t h.2
    unfold inV at ih ⊢
    rw [List.any_cons, List.any_cons, ih, eqV_of r s h.1 k]
end
end Z
end
section
set_option maxHeartbeats 4000000
namespace Z
open PySem PySem.Spec PyProof.Rows L2

/-! ### in, is -/
section
variable {X : Cx} {T : Tb}
def rInZ (K : PySem.W.Frag) (neg : Bool) : R2 := fun x y H Q => ((∃ d ds, Dp K H x d ∧ Dp K H y (.list ds) ∧ SeqAt.shaped d = true ∧ SeqAt.shaped (.list ds) = true ∧ Q (.bl (neg ^^ ds.any fun z => PyData.eqv z d)) H) ∨ rIn K neg x y H Q) ∨
  ∃ i j, x = .str i ∧ y = .str j ∧ Q (.bl (neg ^^ !(Builtin.Str.occurrences j i 0 j.length 1).isEmpty)) H
theorem op_inZ (hu : X.A.units + 65 < cLine) : OpR X (compareOp .In) (rInZ X.K false) := by
  intro pins s σ H x y v u Q I rx ry h
  rcases h with (h | h) | h
  · obtain ⟨d, ds, h1, h2, h3, h4, q⟩ := h
    exact op_inD hu pins s σ H x y v u Q I rx ry ⟨d, ds, h1, h2, h3, h4, by simpa using q⟩
  · exact op_in_seq pins s σ H x y v u Q I rx ry h
  · obtain ⟨i, j, h1, h2, q⟩ := h
    exact op_in_str pins s σ H x y v u Q I rx ry ⟨i, j, h1, h2, by simpa using q⟩
theorem op_ninZ (hu : X.A.units + 65 < cLine) : OpR X (compareOp .NotIn) (rInZ X.K true) := by
  intro pins s σ H x y v u Q I rx ry h
  rcases h with (h | h) | h
  · obtain ⟨d, ds, h1, h2, h3, h4, q⟩ := h
    exact op_notInD hu pins s σ H x y v u Q I rx ry ⟨d, ds, h1, h2, h3, h4, by simpa using q⟩
  · exact op_notIn_seq pins s σ H x y v u Q I rx ry h
  · obtain ⟨i, j, h1, h2, q⟩ := h
    exact op_notin_str pins s σ H x y v u Q I rx ry ⟨i, j, h1, h2, by simpa using q⟩
theorem shaped_list {xs : List D} (h : okDs 63 xs = true) : SeqAt.shaped (.list (pys xs)) = true := by
  have e : py (.list xs) = .list (pys xs) := by rw [py]
  rw [← e]
  exact ok_shaped (show okD 64 (.list xs) = true from h)
theorem s_in {neg : Bool} : OpS X T (rInZ X.K neg) (gIn neg) := fun O H S x y a b Q E so sa sb q => by
  unfold gIn at q
  split at q
  · rename_i xs
    split at q
    · rename_i h
      have hb : okD 64 (.list xs) = true := h.2
      have hd := sb.dp hb
      rw [py] at hd
      exact .inl (.inl ⟨_, _, sa.dp h.1, hd, ok_shaped h.1, shaped_list h.2, by rw [any_py h.1 (okDs_mono (by decide) xs h.2)]; exact q O H _ Le.refl so (.bl _)⟩)
    · exact q.elim
  · rename_i xs
    split at q
    · rename_i h
      obtain ⟨p, vs, rfl, h1, t, _⟩ := sb.tuple
      have ra : Rp X.K X.mg O.cs (hide O H) x a := by
        cases sa with
        | of r _ => exact r
        | cell _ _ => simp [okD] at h
      refine .inl (.inr ⟨p, vs, rfl, .inr h1, flat_of ra h.1, flats_of t h.2, ?_⟩)
      rw [inV_of ra h.1 t h.2]
      have := q O H (.bl (neg ^^ xs.any fun z => eqD z a)) Le.refl so (.bl _)
      cases neg
      · simpa using this
      · simpa using this
    · exact q.elim
  · split at q
    · exact .inr ⟨_, _, sa.str, sb.str, q O H _ Le.refl so (.bl _)⟩
    · exact q.elim
  · exact q.elim
def rIsZ (neg : Bool) : R2 := fun x y H Q => (y = .non ∧ Q (.bl (neg ^^ decide (x = .non))) H) ∨ ∃ a b : Bool, x = .bl a ∧ y = .bl b ∧ Q (.bl (neg ^^ decide (a = b))) H
theorem op_isZ : OpR X (compareOp .Is) (rIsZ false) := by
  intro pins s σ H x y v u Q I rx ry h
  rcases h with ⟨h, q⟩ | ⟨a, b, h1, h2, q⟩
  · exact op_isN pins s σ H x y v u Q I rx ry ⟨h, by simpa using q⟩
  · exact op_isBl pins s σ H x y v u Q I rx ry ⟨a, b, h1, h2, by simpa using q⟩
theorem op_isntZ : OpR X (compareOp .IsNot) (rIsZ true) := by
  intro pins s σ H x y v u Q I rx ry h
  rcases h with ⟨h, q⟩ | ⟨a, b, h1, h2, q⟩
  · exact op_notN pins s σ H x y v u Q I rx ry ⟨h, by simpa using q⟩
  · exact op_notBl pins s σ H x y v u Q I rx ry ⟨a, b, h1, h2, by simpa using q⟩
def isNone : D → Bool
  | .none => true
  | _ => false
def gIs (neg : Bool) (a b : D) : M D := match b with
  | .none => pure (.bool (neg ^^ isNone a))
  | .bool y => (match a with
    | .bool x => pure (.bool (neg ^^ decide (x = y)))
    | _ => no)
  | _ => no
theorem Seen.isNone {K : PySem.W.Frag} {mg : Str → Option Value} {O : Ow} {H : Hp} {x : V} {a : D} (h : Seen K mg O H x a) : decide (x = .non) = isNone a := by
  cases h with
  | of r _ => cases r <;> simp [Z.isNone]
  | cell _ _ => simp [Z.isNone]
theorem s_is {neg : Bool} : OpS X T (rIsZ neg) (gIs neg) := fun O H S x y a b Q E so sa sb q => by
  unfold gIs at q
  split at q
  · exact .inl ⟨sb.non, by rw [sa.isNone]; exact q O H _ Le.refl so (.bl _)⟩
  · split at q
    · exact .inr ⟨_, _, sa.bl, sb.bl, q O H _ Le.refl so (.bl _)⟩
    · exact q.elim
  · exact q.elim

/-! ### items -/
def gIx (a i : D) : M D := match i with
  | .int i => (match a with
    | .tuple xs => ofO (atI xs i)
    | .list xs => ofO (atI xs i)
    | .frz xs => ofO (atI xs i)
    | .str z => if z.length ≤ 1000000 then ofO ((atI z.cps.toList i).map fun c => .str ⟨#[c]⟩) else no
    | _ => no)
  | _ => no
theorem atI_rp {K : PySem.W.Frag} {mg : Str → Option Value} {O : List Addr} {G : Hp} {ds : List D} {vs : List V} {i : Int} {d : D} (t : Rps K mg O G vs ds) (h : atI ds i = some d) : ∃ v, atI vs i = some v ∧ Rp K mg O G v d := by
  unfold atI at h ⊢
  rw [t.length]
  cases e : ixN ds.length i with
  | none => rw [e] at h; cases h
  | some j =>
    rw [e] at h
    exact t.get h
theorem po_ofO {K : PySem.W.Frag} {mg : Str → Option Value} {α β : Type} {R : List Addr → Hp → β → α → Prop} {o : Option α} {S : Store} {O : Ow} {H : Hp} {Q : β → Hp → Prop} {E : XK} (h : Po K mg T R (ofO o S) O H Q E) : ∃ a, o = some a ∧ Po K mg T R (.ok a S) O H Q E := by
  cases o with
  | none => exact h.elim
  | some a => exact ⟨a, rfl, h⟩
theorem s_ix : OpS X T (rIx X.K) gIx := fun O H S x y a b Q E so sa sb q => by
  unfold gIx at q
  split at q
  · split at q
    · obtain ⟨d, h, q1⟩ := po_ofO q
      obtain ⟨p, vs, rfl, h1, t, _⟩ := sa.tuple
      obtain ⟨v, e, r⟩ := atI_rp t h
      exact .inr (.inl ⟨_, _, _, _, rfl, sb.int, h1, e, q1 O H v Le.refl so r⟩)
    · obtain ⟨d, h, q1⟩ := po_ofO q
      obtain ⟨p, vs, rfl, h1, t⟩ := sa.list
      obtain ⟨v, e, r⟩ := atI_rp t h
      exact .inl ⟨_, _, _, _, rfl, sb.int, .inl (.inl h1), e, q1 O H v Le.refl so r⟩
    · obtain ⟨d, h, q1⟩ := po_ofO q
      obtain ⟨p, vs, rfl, h1, t⟩ := sa.frz
      obtain ⟨v, e, r⟩ := atI_rp t h
      exact .inl ⟨_, _, _, _, rfl, sb.int, h1, e, q1 O H v Le.refl so r⟩
    · split at q
      · rename_i hl
        obtain ⟨d, h, q1⟩ := po_ofO q
        obtain ⟨c, hc, e⟩ := Option.map_eq_some_iff.mp h
        subst e
        exact .inr (.inr ⟨_, _, c, sa.str, sb.int, small_len hl, hc, q1 O H _ Le.refl so (.str _)⟩)
      · exact q.elim
    · exact q.elim
  · exact q.elim
/-- a part of a slice -/
abbrev BO := Ev → M (Option Int)
abbrev RO : List Addr → Hp → Option Int → Option Int → Prop := fun _ _ b a => b = a
def tDO (K : PySem.W.Frag) (mg : Str → Option Value) (T : Tb) (E : XKs) (f : BO) : TO := fun σ H Q => ∃ env S O, REnv K mg O.cs (hide O H) σ env ∧ SOk K mg T O H S ∧ Po K mg T RO (f env S) O H Q (E σ)
structure DO (X : Cx) (T : Tb) (E : XKs) (e : Option Expr) (f : BO) : Prop where
  po : PO X e (tDO X.K X.mg T E f)
theorem _root_.L2.PO.monoZ {X : Cx} {e : Option Expr} {t t' : TO} (h : PO X e t) (k : ∀ σ H Q, t' σ H Q → t σ H Q) : PO X e t' := ⟨fun pins s σ H Q I q => h.run pins s σ H Q I (k _ _ _ q)⟩
def oNone : BO := fun _ => pure none
def toInt : D → M (Option Int)
  | .int i => pure (some i)
  | _ => no
def oSome (f : BE) : BO := fun env => f env >>= toInt
variable {E : XKs}
theorem do_none : DO X T E none oNone := ⟨po_none.monoZ fun σ H Q ⟨env, S, O, re, so, q⟩ => q O H none Le.refl so rfl⟩
theorem do_some {e : Expr} {f : BE} (h : DE X T E e f) : DO X T E (some e) (oSome f) := ⟨(po_some h.pe).monoZ fun σ H Q ⟨env, S, O, re, so, q⟩ => ⟨env, S, O, re, so, Po.bind q fun a S1 O1 H1 x l s1 r1 q1 => by
  cases r1 with
  | int i => exact ⟨i, rfl, q1 O1 H1 _ Le.refl s1 rfl⟩
  | _ => exact q1.elim⟩⟩
def cutD (xs : List D) (lo hi : Option Int) : List D := (xs.drop (HT.sIx xs.length 0 lo)).take (HT.sIx xs.length xs.length hi - HT.sIx xs.length 0 lo)
def gSl (a : D) (lo hi : Option Int) : M D := match a with
  | .tuple xs => pure (.tuple (cutD xs lo hi))
  | .list xs => pure (.list (cutD xs lo hi))
  | _ => no
def eSl (f : BE) (lo hi : BO) : BE := fun env => f env >>= fun a => lo env >>= fun l => hi env >>= fun h => rd a >>= fun a' => gSl a' l h
theorem cut_rps {K : PySem.W.Frag} {mg : Str → Option Value} {O : List Addr} {G : Hp} {ds : List D} {vs : List V} {lo hi : Option Int} (t : Rps K mg O G vs ds) : Rps K mg O G (cutV vs lo hi) (cutD ds lo hi) := by
  unfold cutV cutD
  rw [t.length]
  exact (t.drop _).take _
theorem cut_whole {xs : List D} {lo hi : Option Int} (h : HT.sIx xs.length 0 lo = 0 ∧ HT.sIx xs.length xs.length hi = xs.length) : cutD xs lo hi = xs := by
  unfold cutD
  rw [h.1, h.2]
  simp
theorem de_sl {e : Expr} {lo hi : Option Expr} {f : BE} {l h : BO} {p2 pos : Pos} (he : DE X T E e f) (hl : DO X T E lo l) (hh : DO X T E hi h) : DE X T E (.Subscript e (.Slice lo hi none p2) pos) (eSl f l h) :=
  ⟨(pe_slice (SlR.or sl_tupA sl_list) he.pe hl.po hh.po).monoZ fun σ H Q ⟨env, S, O, re, so, q⟩ => ⟨env, S, O, re, so, Po.bind q fun a S1 O1 H1 x l1 s1 r1 q1 =>
    ⟨env, S1, O1, re.mono l1, s1, Po.bind q1 fun lo S2 O2 H2 y l2 s2 r2 q2 =>
      ⟨env, S2, O2, re.mono (l1.trans l2), s2, Po.bind q2 fun hi S3 O3 H3 z l3 s3 r3 q3 => by
        cases r2
        cases r3
        obtain ⟨a', sa, q4⟩ := rd_po s3 (r1.le (l2.trans l3)) q3
        unfold gSl at q4
        split at q4
        · obtain ⟨p, vs, rfl, h1, t, rt⟩ := sa.tuple
          refine .inl ⟨p, vs, rfl, h1, fun hw => ?_, fun _ => new_tup s3 (cut_rps t) q4⟩
          rw [t.length] at hw
          rw [cut_whole hw] at q4
          exact q4 O3 H3 _ Le.refl s3 rt
        · obtain ⟨p, vs, rfl, h1, t⟩ := sa.list
          exact .inr ⟨p, vs, rfl, .inl (.inl h1), new_lst s3 (cut_rps t) q4⟩
        · exact q4.elim⟩⟩⟩⟩
end

/-! ### calls of built-ins -/
section
variable {X : Cx} {T : Tb} {E : XKs}
def CallD (X : Cx) (T : Tb) (r : List V → Hp → VK → Prop) (g : List D → M D) : Prop := ∀ O H S xs as Q E, SOk X.K X.mg T O H S → Rps X.K X.mg O.cs (hide O H) xs as → Po X.K X.mg T (Rp X.K X.mg) (g as S) O H Q E → r xs H Q
def eCB (g : List D → M D) (fs : BA) : BE := fun env => fs env >>= g
theorem t_cb {r : List V → Hp → VK → Prop} {g : List D → M D} {fs : BA} (h : CallD X T r g) : ∀ σ H Q, tD X.K X.mg T E (eCB g fs) σ H Q → tCB r (tDA X.K X.mg T E fs) σ H Q := fun σ H Q ⟨env, S, O, re, so, q⟩ =>
  ⟨env, S, O, re, so, Po.bind q fun as S1 O1 H1 xs l s1 r1 q1 => h O1 H1 S1 xs as Q _ s1 r1 q1⟩
theorem de_callB {x : Str} {id : String} {r : List V → Hp → VK → Prop} {g : List D → M D} {e : Expr} {es : List Expr} {fs : BA} {p pos : Pos} (hc : CallR X (.builtin id) r) (h : CallD X T r g) (hm : X.mg x = none) (hv : bootBuiltins x = some (.builtin id)) (ha : DA X T E (e :: es) fs) (hg : Gl X x := by rfl)
    (hn : x ≠ "__name__" := by decide) (hdb : (x == ("__debug__" : Str)) = false := by decide) (he : starEach (e :: es) X.env = (false, eval e X.env) :: starEach es X.env := by rfl) (hpl : (backTo pos (starEach es X.env)).any (·.1) = false := by rfl) : DE X T E (.Call (.Name x p) (e :: es) [] pos) (eCB g fs) :=
  ⟨(pe_callB hc hg hm hv ha.pa hn hdb he hpl).monoZ (t_cb h)⟩
theorem de_callTy {x : Str} {ty : String} {r : List V → Hp → VK → Prop} {g : List D → M D} {e : Expr} {es : List Expr} {fs : BA} {p pos : Pos} (hc : CallR X (.type ty) r) (h : CallD X T r g) (hm : X.mg x = none) (hv : bootBuiltins x = some (.type ty)) (ha : DA X T E (e :: es) fs) (hg : Gl X x := by rfl)
    (hn : x ≠ "__name__" := by decide) (hdb : (x == ("__debug__" : Str)) = false := by decide) (he : starEach (e :: es) X.env = (false, eval e X.env) :: starEach es X.env := by rfl) (hpl : (backTo pos (starEach es X.env)).any (·.1) = false := by rfl) : DE X T E (.Call (.Name x p) (e :: es) [] pos) (eCB g fs) :=
  ⟨(pe_callTy hc hg hm hv ha.pa hn hdb he hpl).monoZ (t_cb h)⟩
/-- one argument -/
def c1 (g : D → M D) : List D → M D
  | [a] => rd a >>= g
  | _ => no
def c2 (g : D → D → M D) : List D → M D
  | [a, b] => rd a >>= fun a' => rd b >>= fun b' => g a' b'
  | _ => no
theorem cd1 {r : List V → Hp → VK → Prop} {g : D → M D} (h : ∀ O H S x a Q E, SOk X.K X.mg T O H S → Seen X.K X.mg O H x a → Po X.K X.mg T (Rp X.K X.mg) (g a S) O H Q E → r [x] H Q) : CallD X T r (c1 g) := fun O H S xs as Q E so rs q => by
  match as, rs, q with
  | [], _, q => exact q.elim
  | [a], .cons ra .nil, q =>
    obtain ⟨a', sa, q1⟩ := rd_po so ra q
    exact h O H S _ a' Q E so sa q1
  | _ :: _ :: _, _, q => exact q.elim
theorem cd2 {r : List V → Hp → VK → Prop} {g : D → D → M D} (h : ∀ O H S x y a b Q E, SOk X.K X.mg T O H S → Seen X.K X.mg O H x a → Seen X.K X.mg O H y b → Po X.K X.mg T (Rp X.K X.mg) (g a b S) O H Q E → r [x, y] H Q) : CallD X T r (c2 g) := fun O H S xs as Q E so rs q => by
  match as, rs, q with
  | [], _, q => exact q.elim
  | [_], _, q => exact q.elim
  | [a, b], .cons ra (.cons rb .nil), q =>
    obtain ⟨a', sa, q1⟩ := rd_po so ra q
    obtain ⟨b', sb, q2⟩ := rd_po so rb q1
    exact h O H S _ _ a' b' Q E so sa sb q2
  | _ :: _ :: _ :: _, _, q => exact q.elim
/-- len -/
def gLen (a : D) : M D := match a with
  | .tuple xs => pure (.int xs.length)
  | .list xs => pure (.int xs.length)
  | .frz xs => pure (.int xs.length)
  | .str z => if z.length ≤ 1000000 then pure (.int z.length) else no
  | _ => no
theorem d_len : CallD X T (fun xs H Q => ∃ x n, xs = [x] ∧ LenV X.K x H n ∧ Q (.int n) H) (c1 gLen) := cd1 fun O H S x a Q E so sa q => by
  unfold gLen at q
  split at q
  · obtain ⟨p, vs, rfl, h1, t, _⟩ := sa.tuple
    exact ⟨_, _, rfl, .inr ⟨vs, h1, rfl⟩, by rw [t.length]; exact q O H _ Le.refl so (.int _)⟩
  · obtain ⟨p, vs, rfl, h1, t⟩ := sa.list
    exact ⟨_, _, rfl, .inl ⟨vs, .inl (.inl h1), rfl⟩, by rw [t.length]; exact q O H _ Le.refl so (.int _)⟩
  · obtain ⟨p, vs, rfl, h1, t⟩ := sa.frz
    exact ⟨_, _, rfl, .inl ⟨vs, h1, rfl⟩, by rw [t.length]; exact q O H _ Le.refl so (.int _)⟩
  · split at q
    · rename_i z hl
      have e := sa.str
      subst e
      exact ⟨_, z.length, rfl, ⟨small_len hl, rfl⟩, q O H _ Le.refl so (.int _)⟩
    · exact q.elim
  · exact q.elim
def gAbs (a : D) : M D := match a with
  | .int i => pure (.int (if i < 0 then -i else i))
  | _ => no
theorem d_abs : CallD X T (fun xs H Q => ∃ i, xs = [.int i] ∧ Q (.int (if i < 0 then -i else i)) H) (c1 gAbs) := cd1 fun O H S x a Q E so sa q => by
  unfold gAbs at q
  split at q
  · exact ⟨_, by rw [sa.int], q O H _ Le.refl so (.int _)⟩
  · exact q.elim
def gMax2 (a b : D) : M D := match a, b with
  | .int i, .int j => pure (.int (if j > i then j else i))
  | _, _ => no
def gMin2 (a b : D) : M D := match a, b with
  | .int i, .int j => pure (.int (if j < i then j else i))
  | _, _ => no
theorem d_max2 : CallD X T (fun xs H Q => ∃ i j, xs = [.int i, .int j] ∧ Q (.int (if j > i then j else i)) H) (c2 gMax2) := cd2 fun O H S x y a b Q E so sa sb q => by
  unfold gMax2 at q
  split at q
  · exact ⟨_, _, by rw [sa.int, sb.int], q O H _ Le.refl so (.int _)⟩
  · exact q.elim
theorem d_min2 : CallD X T (fun xs H Q => ∃ i j, xs = [.int i, .int j] ∧ Q (.int (if j < i then j else i)) H) (c2 gMin2) := cd2 fun O H S x y a b Q E so sa sb q => by
  unfold gMin2 at q
  split at q
  · exact ⟨_, _, by rw [sa.int, sb.int], q O H _ Le.refl so (.int _)⟩
  · exact q.elim
def gInt (a : D) : M D := match a with
  | .int i => pure (.int i)
  | .bool k => pure (.int (if k then 1 else 0))
  | _ => no
theorem d_int : CallD X T (fun xs H Q => (∃ i, xs = [.int i] ∧ Q (.int i) H) ∨ ∃ k, xs = [.bl k] ∧ Q (.int (if k then 1 else 0)) H) (c1 gInt) := cd1 fun O H S x a Q E so sa q => by
  unfold gInt at q
  split at q
  · exact .inl ⟨_, by rw [sa.int], q O H _ Le.refl so (.int _)⟩
  · exact .inr ⟨_, by rw [sa.bl], q O H _ Le.refl so (.int _)⟩
  · exact q.elim
def gList (a : D) : M D := match a with
  | .tuple xs => pure (.list xs)
  | .list xs => pure (.list xs)
  | _ => no
theorem d_list : CallD X T (fun xs H Q => ∃ p ys, xs = [.ref p] ∧ (SqL X.K H p ys ∨ SqT X.K H p ys) ∧ ∀ l, H l = none → Q (.ref l) (upd H l (.lst ys))) (c1 gList) := cd1 fun O H S x a Q E so sa q => by
  unfold gList at q
  split at q
  · obtain ⟨p, vs, rfl, h1, t, _⟩ := sa.tuple
    exact ⟨_, _, rfl, .inr h1, new_lst so t q⟩
  · obtain ⟨p, vs, rfl, h1, t⟩ := sa.list
    exact ⟨_, _, rfl, .inl (.inl (.inl h1)), new_lst so t q⟩
  · exact q.elim
def gTuple (a : D) : M D := match a with
  | .tuple xs => pure (.tuple xs)
  | .list xs => pure (.tuple xs)
  | _ => no
theorem d_tuple : CallD X T (fun xs H Q => ∃ p ys, xs = [.ref p] ∧ ((SqL X.K H p ys ∧ ∀ l, H l = none → Q (.ref l) (upd H l (.tup ys))) ∨ (SqT X.K H p ys ∧ Q (.ref p) H))) (c1 gTuple) := cd1 fun O H S x a Q E so sa q => by
  unfold gTuple at q
  split at q
  · obtain ⟨p, vs, rfl, h1, t, rt⟩ := sa.tuple
    exact ⟨_, _, rfl, .inr ⟨h1, q O H _ Le.refl so rt⟩⟩
  · obtain ⟨p, vs, rfl, h1, t⟩ := sa.list
    exact ⟨_, _, rfl, .inl ⟨.inl (.inl h1), new_tup so t q⟩⟩
  · exact q.elim
/-- all, any of truth values -/
def bools : List D → Option (List Bool)
  | [] => some []
  | .bool b :: xs => (bools xs).map (b :: ·)
  | _ => none
theorem bools_rp {K : PySem.W.Frag} {mg : Str → Option Value} {O : List Addr} {G : Hp} : ∀ {ds : List D} {vs : List V} {bs : List Bool}, Rps K mg O G vs ds → bools ds = some bs → vs = bs.map V.bl
  | _, _, _, .nil, e => by cases e; rfl
  | _, _, _, .cons (d := d) r t, e => by
    cases r with
    | bl b =>
      rw [bools] at e
      obtain ⟨bs', h, rfl⟩ := Option.map_eq_some_iff.mp e
      rw [bools_rp t h]
      rfl
    | _ => simp [bools] at e
def gAll (a : D) : M D := match a with
  | .list xs => ofO ((bools xs).map fun bs => .bool (bs.all id))
  | _ => no
def gAny (a : D) : M D := match a with
  | .list xs => ofO ((bools xs).map fun bs => .bool (bs.any id))
  | _ => no
theorem d_all : CallD X T (rAll X.K) (c1 gAll) := cd1 fun O H S x a Q E so sa q => by
  unfold gAll at q
  split at q
  · obtain ⟨d, h, q1⟩ := po_ofO q
    obtain ⟨bs, hb, rfl⟩ := Option.map_eq_some_iff.mp h
    obtain ⟨p, vs, rfl, h1, t⟩ := sa.list
    have e := bools_rp t hb
    subst e
    exact ⟨_, _, rfl, .inl (.inl h1), q1 O H _ Le.refl so (.bl _)⟩
  · exact q.elim
theorem d_any : CallD X T (rAny X.K) (c1 gAny) := cd1 fun O H S x a Q E so sa q => by
  unfold gAny at q
  split at q
  · obtain ⟨d, h, q1⟩ := po_ofO q
    obtain ⟨bs, hb, rfl⟩ := Option.map_eq_some_iff.mp h
    obtain ⟨p, vs, rfl, h1, t⟩ := sa.list
    have e := bools_rp t hb
    subst e
    exact ⟨_, _, rfl, .inl (.inl h1), q1 O H _ Le.refl so (.bl _)⟩
  · exact q.elim
/-- isinstance of a built-in type -/
def tyName : D → Option String
  | .none => some "NoneType"
  | .bool _ => some "bool"
  | .int _ => some "int"
  | .str _ => some "str"
  | .list _ => some "list"
  | .tuple _ => some "tuple"
  | .frz _ => some "list"
  | _ => none
def gIsi (ty : String) (a : D) : M D := ofO ((tyName a).bind fun t => (kitB t ty).map .bool)
theorem sqt_ty {K : PySem.W.Frag} {H : Hp} {a : Addr} {xs : List V} (h : SqT K H a xs) : TyX K H (.ref a) (.type "tuple") := by
  rcases h with (h | ⟨o, h⟩) | ⟨o, its, n, h, c, _⟩
  · exact .base (.tup h)
  · exact .fTuple h
  · exact .kTuple h c
theorem sql_ty {K : PySem.W.Frag} {H : Hp} {a : Addr} {xs : List V} (h : SqL K H a xs) : TyX K H (.ref a) (.type "list") := by
  rcases h with (h | ⟨o, h⟩) | ⟨o, its, n, h, c, _⟩
  · exact .base (.lst h)
  · exact .base (.frz h)
  · exact .kList h c
theorem Seen.ty {K : PySem.W.Frag} {mg : Str → Option Value} {O : Ow} {H : Hp} {x : V} {a : D} {t : String} (h : Seen K mg O H x a) (e : tyName a = some t) : TyX K H x (.type t) := by
  cases h with
  | of r nc =>
    cases r with
    | non => cases e; exact .base .non
    | bl b => cases e; exact .base (.bl b)
    | int b => cases e; exact .base (.int b)
    | str b => cases e; exact .base (.str b)
    | lst h _ => cases e; exact .base (.lst (hide_le h).2.1)
    | tup h _ => cases e; exact sqt_ty (st_le h)
    | frz h _ => cases e; exact sql_ty (sl_le h)
    | cell _ => exact absurd rfl (nc _)
    | fn _ => cases e
    | adr _ => cases e
  | cell h _ => cases e; exact .base (.lst h)
def eIsi (ty : String) (f : BE) : BE := fun env => f env >>= fun a => rd a >>= gIsi ty
theorem de_isi {ty : String} {x tn : Str} {e : Expr} {f : BE} {p p2 pos : Pos} (he : DE X T E e f) (hm : X.mg x = none) (hv : bootBuiltins x = some (.builtin "isinstance")) (hm2 : X.mg tn = none) (hv2 : bootBuiltins tn = some (.type ty)) (hg : Gl X x := by rfl) (hg2 : Gl X tn := by rfl)
    (hn : x ≠ "__name__" := by decide) (hdb : (x == ("__debug__" : Str)) = false := by decide) (hn2 : tn ≠ "__name__" := by decide) (hdb2 : (tn == ("__debug__" : Str)) = false := by decide)
    (h1 : starEach [e, .Name tn p2] X.env = (false, eval e X.env) :: starEach [.Name tn p2] X.env := by rfl) (hpl : (backTo pos (starEach [.Name tn p2] X.env)).any (·.1) = false := by rfl) (h2 : starEach [.Name tn p2] X.env = [(false, eval (.Name tn p2) X.env)] := by rfl) :
    DE X T E (.Call (.Name x p) [e, .Name tn p2] [] pos) (eIsi ty f) :=
  ⟨(pe_callB call_isi hg hm hv (pa_cons he.pe (pa_cons (pe_bltn (v := .ty ty) hg2 hm2 hv2 rfl hn2 hdb2) pa_nil (by rw [h2]; rfl)) h1) hn hdb h1 hpl).monoZ fun σ H Q ⟨env, S, O, re, so, q⟩ =>
    ⟨env, S, O, re, so, Po.bind q fun a S1 O1 H1 x l s1 r1 q1 => by
      obtain ⟨a', sa, q2⟩ := rd_po s1 r1 q1
      obtain ⟨d, h, q3⟩ := po_ofO q2
      obtain ⟨t, ht, h3⟩ := Option.bind_eq_some_iff.mp h
      obtain ⟨b, hb, rfl⟩ := Option.map_eq_some_iff.mp h3
      exact ⟨x, .ty ty, .type t, .type ty, b, rfl, .ty ty, sa.ty ht, kit_ty hb, q3 O1 H1 _ Le.refl s1 (.bl b)⟩⟩⟩
end
end Z
end
section
set_option maxHeartbeats 4000000
namespace Z
open PySem PySem.Spec PyProof.Rows L2

/-! ### where code runs -/
structure Cok (X : Cx) (E : XKs) (k : Nat) : Prop where
  calm : X.calm = true
  nd : X.N.Nodup
  pass : ∀ σ, PassesAt (L2N.CX X.prog X.w) X σ (E σ)
  own : PassesOwn (model X.prog X.w) X.A X.env X.xe
  room : Room k X.A
  tk : L2N.Takes X fun c d σ H => E σ c d H
abbrev E0s : XKs := fun _ _ _ _ => False
theorem passAt0 {X : Cx} {σ : L2.St} : PassesAt (L2N.CX X.prog X.w) X σ (fun _ _ _ => False) := fun _ _ _ _ _ _ h => by
  obtain ⟨_, _, _, _, _, _, _, _, _, _, _, _, z⟩ := h
  exact z.elim
theorem takes0N {X : Cx} : L2N.Takes X (fun _ _ _ _ => False) := fun _ _ x => by
  obtain ⟨_, _, _, _, _, _, _, _, _, _, _, _, _, _, _, _, z⟩ := x
  exact z.elim
theorem Cok.blk {X : Cx} {E : XKs} {k : Nat} (c : Cok X E k) (s : Shared) (H : Hp) (scope : Scope) (env : Env) (fp : List Addr) : Cok (X.blk s H scope env fp) E0s k :=
  ⟨c.calm, c.nd, fun _ => passAt0, PassesOwn.never, c.room, takes0N⟩
theorem Cok.mono {X : Cx} {E : XKs} {j k : Nat} (c : Cok X E k) (h : j ≤ k) : Cok X E j := ⟨c.calm, c.nd, c.pass, c.own, c.room.mono h, c.tk⟩
theorem Cok.hu {X : Cx} {E : XKs} {k : Nat} (c : Cok X E k) : X.A.units + 65 < cLine := by
  have := c.room.un
  omega
theorem Cok.hu64 {X : Cx} {E : XKs} {k : Nat} (c : Cok X E k) : X.A.units + 64 < cLine := by
  have := c.hu
  omega

/-! ### what is walked -/
mutual
def sameD : D → D → Bool
  | .none, .none => true
  | .bool a, .bool b => a == b
  | .int a, .int b => decide (a = b)
  | .str a, .str b => decide (a = b)
  | .list a, .list b => sameDs a b
  | .tuple a, .tuple b => sameDs a b
  | .frz a, .frz b => sameDs a b
  | .cell a, .cell b => decide (a = b)
  | .fn a, .fn b => decide (a = b)
  | .adr a, .adr b => decide (a = b)
  | _, _ => false
def sameDs : List D → List D → Bool
  | [], [] => true
  | a :: as, b :: bs => sameD a b && sameDs as bs
  | _, _ => false
end
mutual
theorem sameD_eq : ∀ a b : D, sameD a b = true → a = b
  | .none, b, h => by cases b <;> simp_all [sameD]
  | .bool _, b, h => by cases b <;> simp_all [sameD]
  | .int _, b, h => by cases b <;> simp_all [sameD]
  | .str _, b, h => by cases b <;> simp_all [sameD]
  | .cell _, b, h => by cases b <;> simp_all [sameD]
  | .fn _, b, h => by cases b <;> simp_all [sameD]
  | .adr _, b, h => by cases b <;> simp_all [sameD]
  | .list a, b, h => by
    cases b with
    | list b => rw [sameDs_eq a b (by simpa [sameD] using h)]
    | _ => simp [sameD] at h
  | .tuple a, b, h => by
    cases b with
    | tuple b => rw [sameDs_eq a b (by simpa [sameD] using h)]
    | _ => simp [sameD] at h
  | .frz a, b, h => by
    cases b with
    | frz b => rw [sameDs_eq a b (by simpa [sameD] using h)]
    | _ => simp [sameD] at h
theorem sameDs_eq : ∀ a b : List D, sameDs a b = true → a = b
  | [], [], _ => rfl
  | [], _ :: _, h => by simp [sameDs] at h
  | _ :: _, [], h => by simp [sameDs] at h
  | a :: as, b :: bs, h => by
    rw [sameDs, Bool.and_eq_true] at h
    rw [sameD_eq a b h.1, sameDs_eq as bs h.2]
end
mutual
theorem sameD_rfl : ∀ a : D, sameD a a = true
  | .none => by simp [sameD]
  | .bool _ => by simp [sameD]
  | .int _ => by simp [sameD]
  | .str _ => by simp [sameD]
  | .cell _ => by simp [sameD]
  | .fn _ => by simp [sameD]
  | .adr _ => by simp [sameD]
  | .list a => by simp [sameD, sameDs_rfl a]
  | .tuple a => by simp [sameD, sameDs_rfl a]
  | .frz a => by simp [sameD, sameDs_rfl a]
theorem sameDs_rfl : ∀ a : List D, sameDs a a = true
  | [] => rfl
  | a :: as => by rw [sameDs, sameD_rfl a, sameDs_rfl as]; rfl
end
/-- the items, and what must stay true of the cells meanwhile -/
structure Its where
  ds : List D
  gd : Store → Bool
def cellGd (n : Nat) (ds : List D) : Store → Bool := fun S => match S[n]? with
  | some (.lst es) => sameDs es ds
  | .none => false
/-- a list or a tuple, at an address -/
inductive SrcK where
  | l | t
def srcOf (d : D) (S : Store) : Option (SrcK × Its) := match d with
  | .list xs => some (.l, ⟨xs, fun _ => true⟩)
  | .frz xs => some (.l, ⟨xs, fun _ => true⟩)
  | .tuple xs => some (.t, ⟨xs, fun _ => true⟩)
  | .cell n => (match S[n]? with
    | some (.lst xs) => some (.l, ⟨xs, cellGd n xs⟩)
    | .none => none)
  | _ => none
section
variable (K : PySem.W.Frag) (mg : Str → Option Value) (T : Tb)
def AtK (H : Hp) (a : Addr) : SrcK → List V → Prop
  | .l, vs => SqL K H a vs
  | .t, vs => SqT K H a vs
def Src (k : SrcK) (a : Addr) (p : Its) (O : Ow) (H : Hp) : Prop := ∃ Kp : Ow → Hp → Prop, Kp O H ∧ (∀ O H O' H', Kp O H → Lw O H O' H' → Kp O' H') ∧
  ∀ O H S, Kp O H → SOk K mg T O H S → p.gd S = true → ∃ vs, AtK K H a k vs ∧ Rps K mg O.cs (hide O H) vs p.ds
def Dlv (J : It) (p : Its) (O : Ow) (H : Hp) : Prop := ∃ Kp : Ow → Hp → Prop, Kp O H ∧ (∀ O H O' H', Kp O H → Lw O H O' H' → Kp O' H') ∧
  ∀ i O H S, Kp O H → SOk K mg T O H S → p.gd S = true → (∀ d, p.ds[i]? = some d → J.go i H ∧ ∀ x H', J.yld i H x H' → Le O H O H' ∧ SOk K mg T O H' S ∧ Rp K mg O.cs (hide O H') x d) ∧ (p.ds.length ≤ i → J.stop i H)
end
section
variable {K : PySem.W.Frag} {mg : Str → Option Value} {T : Tb} {O : Ow} {H : Hp} {S : Store}
theorem src_ok {v : V} {d : D} {k : SrcK} {p : Its} (so : SOk K mg T O H S) (r : Rp K mg O.cs (hide O H) v d) (e : srcOf d S = some (k, p)) : ∃ a, v = .ref a ∧ Src K mg T k a p O H ∧ p.gd S = true := by
  cases r with
  | lst h t =>
    cases e
    exact ⟨_, rfl, ⟨fun O H => ∃ vs, hide O H _ = some (.lst vs) ∧ Rps K mg O.cs (hide O H) vs _, ⟨_, h, t⟩, fun O H O' H' ⟨vs, h, t⟩ l => ⟨vs, l.same _ _ h, t.mono l.pre l.same⟩, fun O H S ⟨vs, h, t⟩ _ _ => ⟨vs, .inl (.inl (hide_le h).2.1), t⟩⟩, rfl⟩
  | frz h t =>
    cases e
    exact ⟨_, rfl, ⟨fun O H => ∃ vs, SqL K (hide O H) _ vs ∧ Rps K mg O.cs (hide O H) vs _, ⟨_, h, t⟩, fun O H O' H' ⟨vs, h, t⟩ l => ⟨vs, l.same.seq h, t.mono l.pre l.same⟩, fun O H S ⟨vs, h, t⟩ _ _ => ⟨vs, sl_le h, t⟩⟩, rfl⟩
  | tup h t =>
    cases e
    exact ⟨_, rfl, ⟨fun O H => ∃ vs, SqT K (hide O H) _ vs ∧ Rps K mg O.cs (hide O H) vs _, ⟨_, h, t⟩, fun O H O' H' ⟨vs, h, t⟩ l => ⟨vs, Same.seqT l.same h, t.mono l.pre l.same⟩, fun O H S ⟨vs, h, t⟩ _ _ => ⟨vs, st_le h, t⟩⟩, rfl⟩
  | @cell a n hO =>
    unfold srcOf at e
    dsimp only at e
    split at e
    · rename_i xs hs
      cases e
      refine ⟨_, rfl, ⟨fun O H => O.cs[n]? = some a, hO, fun O H O' H' h l => ?_, fun O H S h so g => ?_⟩, ?_⟩
      · obtain ⟨r, e⟩ := l.pre
        rw [e]
        exact pre_get h
      · unfold cellGd at g
        dsimp only at g
        split at g
        · rename_i es hes
          have e := sameDs_eq _ _ g
          subst e
          obtain ⟨vs, h1, h2⟩ := sok_cell so h hes
          exact ⟨vs, .inl (.inl h1), h2⟩
        · cases g
      · unfold cellGd
        dsimp only
        rw [hs]
        exact sameDs_rfl xs
    · cases e
  | non => cases e
  | bl b => cases e
  | int b => cases e
  | str b => cases e
  | fn h => cases e
  | adr h => cases e
theorem dlv_l {a : Addr} {p : Its} (s : Src K mg T .l a p O H) : Dlv K mg T (Itl K a) p O H := by
  obtain ⟨Kp, h1, h2, h3⟩ := s
  refine ⟨Kp, h1, h2, fun i O H S hk so g => ?_⟩
  obtain ⟨vs, hv, t⟩ := h3 O H S hk so g
  have hv : SqL K H a vs := hv
  refine ⟨fun d hd => ?_, fun hl => ⟨vs, hv, by rw [t.length]; exact hl⟩⟩
  obtain ⟨v, hv2, r⟩ := t.get hd
  refine ⟨⟨vs, v, hv, hv2⟩, fun x H' hy => ?_⟩
  obtain ⟨rfl, hx⟩ := hy
  have e : x = v := Option.some.inj ((hx vs hv).symm.trans hv2)
  subst e
  exact ⟨Le.refl, so, r⟩
theorem dlv_t {a : Addr} {p : Its} (s : Src K mg T .t a p O H) : Dlv K mg T (Itt K a) p O H := by
  obtain ⟨Kp, h1, h2, h3⟩ := s
  refine ⟨Kp, h1, h2, fun i O H S hk so g => ?_⟩
  obtain ⟨vs, hv, t⟩ := h3 O H S hk so g
  have hv : SqT K H a vs := hv
  refine ⟨fun d hd => ?_, fun hl => ⟨vs, hv, by rw [t.length]; exact hl⟩⟩
  obtain ⟨v, hv2, r⟩ := t.get hd
  refine ⟨⟨vs, v, hv, hv2⟩, fun x H' hy => ?_⟩
  obtain ⟨rfl, hx⟩ := hy
  have e : x = v := Option.some.inj ((hx vs hv).symm.trans hv2)
  subst e
  exact ⟨Le.refl, so, r⟩
theorem Src.here {k : SrcK} {a : Addr} {p : Its} (s : Src K mg T k a p O H) (so : SOk K mg T O H S) (g : p.gd S = true) : ∃ vs, AtK K H a k vs := by
  obtain ⟨Kp, h1, _, h3⟩ := s
  obtain ⟨vs, h, _⟩ := h3 O H S h1 so g
  exact ⟨vs, h⟩
def rangeDs (lo : Int) (n : Nat) : List D := (List.range n).map fun i => .int (lo + (i : Nat))
theorem dlv_r {lo : Int} {n : Nat} : Dlv K mg T (Itr lo n) ⟨rangeDs lo n, fun _ => true⟩ O H := by
  refine ⟨fun _ _ => True, trivial, fun _ _ _ _ h _ => h, fun i O H S _ so _ => ⟨fun d hd => ?_, fun hl => ?_⟩⟩
  · unfold rangeDs at hd
    rw [List.getElem?_map] at hd
    obtain ⟨j, hj, e⟩ := Option.map_eq_some_iff.mp hd
    obtain ⟨hi, e2⟩ := List.getElem?_eq_some_iff.mp hj
    simp at hi e2
    subst e e2
    refine ⟨hi, fun x H' hy => ?_⟩
    obtain ⟨rfl, rfl⟩ := hy
    exact ⟨Le.refl, so, .int _⟩
  · show n ≤ i
    simpa [rangeDs] using hl
/-- pairs -/
def pairDs : List D → List D → List D
  | x :: xs, y :: ys => .tuple [x, y] :: pairDs xs ys
  | _, _ => []
theorem pairDs_get : ∀ {xs ys : List D} {i : Nat} {d : D}, (pairDs xs ys)[i]? = some d → ∃ x y, xs[i]? = some x ∧ ys[i]? = some y ∧ d = .tuple [x, y]
  | [], _, _, _, h => by simp [pairDs] at h
  | _ :: _, [], _, _, h => by simp [pairDs] at h
  | x :: xs, y :: ys, 0, d, h => by
    simp [pairDs] at h
    exact ⟨x, y, rfl, rfl, h.symm⟩
  | x :: xs, y :: ys, i + 1, d, h => by
    obtain ⟨a, b, h1, h2, h3⟩ := pairDs_get (xs := xs) (ys := ys) (i := i) (by simpa [pairDs] using h)
    exact ⟨a, b, by simpa using h1, by simpa using h2, h3⟩
theorem pairDs_len : ∀ {xs ys : List D}, (pairDs xs ys).length = min xs.length ys.length
  | [], _ => by simp [pairDs]
  | _ :: _, [] => by simp [pairDs]
  | x :: xs, y :: ys => by
    simp [pairDs, pairDs_len (xs := xs) (ys := ys)]
theorem new_pair {x y : V} {a b : D} {t : Addr} (so : SOk K mg T O H S) (n : H t = none) (ra : Rp K mg O.cs (hide O H) x a) (rb : Rp K mg O.cs (hide O H) y b) :
    Le O H O (upd H t (.tup [x, y])) ∧ SOk K mg T O (upd H t (.tup [x, y])) S ∧ Rp K mg O.cs (hide O (upd H t (.tup [x, y]))) (.ref t) (.tuple [a, b]) :=
  ⟨Le.new n, so.new n, .tup (.inl (.inl (hide_of (so.ne n) upd_same))) (.cons (ra.le (Le.new n)) (.cons (rb.le (Le.new n)) .nil))⟩
theorem dlv_zl {a b : Addr} {p q : Its} (s : Src K mg T .l a p O H) (s' : Src K mg T .l b q O H) : Dlv K mg T (Itz K a b) ⟨pairDs p.ds q.ds, fun S => p.gd S && q.gd S⟩ O H := by
  obtain ⟨Kp, h1, h2, h3⟩ := s
  obtain ⟨Kq, k1, k2, k3⟩ := s'
  refine ⟨fun O H => Kp O H ∧ Kq O H, ⟨h1, k1⟩, fun O H O' H' ⟨x, y⟩ l => ⟨h2 _ _ _ _ x l, k2 _ _ _ _ y l⟩, fun i O H S ⟨hk, hk'⟩ so g => ?_⟩
  rw [Bool.and_eq_true] at g
  obtain ⟨vs, hv, t⟩ := h3 O H S hk so g.1
  obtain ⟨us, hu, t'⟩ := k3 O H S hk' so g.2
  have hv : SqL K H a vs := hv
  have hu : SqL K H b us := hu
  refine ⟨fun d hd => ?_, fun hl => ⟨vs, us, hv, hu, ?_⟩⟩
  · obtain ⟨x, y, e1, e2, rfl⟩ := pairDs_get hd
    obtain ⟨v, hv2, r⟩ := t.get e1
    obtain ⟨u, hu2, r'⟩ := t'.get e2
    refine ⟨⟨vs, us, v, u, hv, hu, hv2, hu2⟩, fun z H' hy => ?_⟩
    obtain ⟨tt, x1, y1, rfl, hn, rfl, f1, f2⟩ := hy
    have e1 : x1 = v := Option.some.inj ((f1 vs hv).symm.trans hv2)
    have e2 : y1 = u := Option.some.inj ((f2 us hu).symm.trans hu2)
    subst e1 e2
    exact new_pair so hn r r'
  · rw [t.length, t'.length]
    have : (pairDs p.ds q.ds).length ≤ i := hl
    rw [pairDs_len] at this
    omega
theorem dlv_zt {a b : Addr} {p q : Its} (s : Src K mg T .t a p O H) (s' : Src K mg T .t b q O H) : Dlv K mg T (RZ.ItzT K a b) ⟨pairDs p.ds q.ds, fun S => p.gd S && q.gd S⟩ O H := by
  obtain ⟨Kp, h1, h2, h3⟩ := s
  obtain ⟨Kq, k1, k2, k3⟩ := s'
  refine ⟨fun O H => Kp O H ∧ Kq O H, ⟨h1, k1⟩, fun O H O' H' ⟨x, y⟩ l => ⟨h2 _ _ _ _ x l, k2 _ _ _ _ y l⟩, fun i O H S ⟨hk, hk'⟩ so g => ?_⟩
  rw [Bool.and_eq_true] at g
  obtain ⟨vs, hv, t⟩ := h3 O H S hk so g.1
  obtain ⟨us, hu, t'⟩ := k3 O H S hk' so g.2
  have hv : SqT K H a vs := hv
  have hu : SqT K H b us := hu
  refine ⟨fun d hd => ?_, fun hl => ⟨vs, us, hv, hu, ?_⟩⟩
  · obtain ⟨x, y, e1, e2, rfl⟩ := pairDs_get hd
    obtain ⟨v, hv2, r⟩ := t.get e1
    obtain ⟨u, hu2, r'⟩ := t'.get e2
    refine ⟨⟨vs, us, v, u, hv, hu, hv2, hu2⟩, fun z H' hy => ?_⟩
    obtain ⟨tt, x1, y1, rfl, hn, rfl, f1, f2⟩ := hy
    have e1 : x1 = v := Option.some.inj ((f1 vs hv).symm.trans hv2)
    have e2 : y1 = u := Option.some.inj ((f2 us hu).symm.trans hu2)
    subst e1 e2
    exact new_pair so hn r r'
  · rw [t.length, t'.length]
    have : (pairDs p.ds q.ds).length ≤ i := hl
    rw [pairDs_len] at this
    omega
end

/-! ### iterables -/
abbrev BI := Ev → M Its
def PoI (K : PySem.W.Frag) (mg : Str → Option Value) (T : Tb) (r : Res Its) (O : Ow) (H : Hp) (R : It → Hp → Prop) (E : XK) : Prop := match r with
  | .ok p S' => ∀ O' H' J, Le O H O' H' → SOk K mg T O' H' S' → Dlv K mg T J p O' H' → R J H'
  | .err c S' => ∀ O' H' C, Le O H O' H' → SOk K mg T O' H' S' → mg c = some (.ref C) → E (.ref C) none H'
  | .no => False
def tDI (K : PySem.W.Frag) (mg : Str → Option Value) (T : Tb) (E : XKs) (f : BI) : TI := fun σ H R => ∃ env S O, REnv K mg O.cs (hide O H) σ env ∧ SOk K mg T O H S ∧ PoI K mg T (f env S) O H R (E σ)
structure DI (X : Cx) (T : Tb) (E : XKs) (tg e : Expr) (f : BI) : Prop where
  pi : PI X tg e (tDI X.K X.mg T E f)
theorem _root_.L2.PI.monoZ {X : Cx} {tg e : Expr} {t t' : TI} (h : PI X tg e t) (k : ∀ σ H Q, t' σ H Q → t σ H Q) : PI X tg e t' := ⟨fun pins s σ H Q I q => h.run pins s σ H Q I (k _ _ _ q)⟩
theorem PoI.bind {K : PySem.W.Frag} {mg : Str → Option Value} {T : Tb} {α β : Type} {R : List Addr → Hp → β → α → Prop} {m : M α} {f : α → M Its} {S : Store} {O : Ow} {H : Hp} {Q : β → Hp → Prop} {Q' : It → Hp → Prop} {E : XK} (h : PoI K mg T ((m >>= f) S) O H Q' E)
    (k : ∀ a S1 O1 H1 b, Le O H O1 H1 → SOk K mg T O1 H1 S1 → R O1.cs (hide O1 H1) b a → PoI K mg T (f a S1) O1 H1 Q' E → Q b H1) : Po K mg T R (m S) O H Q E := by
  rw [bd_ap] at h
  cases e : m S with
  | ok a S1 =>
    rw [e] at h
    refine fun O1 H1 b l s r => k a S1 O1 H1 b l s r ?_
    have h : PoI K mg T (f a S1) O H Q' E := h
    cases e2 : f a S1 with
    | ok p S2 => rw [e2] at h; exact fun O2 H2 J l2 s2 d => h O2 H2 J (l.trans l2) s2 d
    | err c S2 => rw [e2] at h; exact fun O2 H2 C l2 s2 d => h O2 H2 C (l.trans l2) s2 d
    | no => rw [e2] at h; exact h
  | err c S1 => rw [e] at h; exact h
  | no => rw [e] at h; exact h
def toIts (d : D) : M Its := fun S => match srcOf d S with
  | some (_, p) => .ok p S
  | none => .no
def iSeq (f : BE) : BI := fun env => f env >>= toIts
def toZip (a b : D) : M Its := fun S => match srcOf a S, srcOf b S with
  | some (.l, p), some (.l, q) => .ok ⟨pairDs p.ds q.ds, fun S => p.gd S && q.gd S⟩ S
  | some (.t, p), some (.t, q) => .ok ⟨pairDs p.ds q.ds, fun S => p.gd S && q.gd S⟩ S
  | _, _ => .no
def iZp (f g : BE) : BI := fun env => f env >>= fun a => g env >>= fun b => toZip a b
theorem big62 : (1000000000 : Int) < 2 ^ 62 := by decide +kernel
theorem lo62 {j : Int} (h : -1000000000 ≤ j) : -(2 ^ 62) ≤ j := by
  have := big62
  generalize (2 : Int) ^ 62 = B at this ⊢
  omega
theorem hi62 {j : Int} (h : j ≤ 1000000000) : j < 2 ^ 62 := by
  have := big62
  generalize (2 : Int) ^ 62 = B at this ⊢
  omega
def toRng : D → M Its
  | .int j => if -1000000000 ≤ j ∧ j ≤ 1000000000 then pure ⟨rangeDs 0 j.toNat, fun _ => true⟩ else no
  | _ => no
def iRg (f : BE) : BI := fun env => f env >>= toRng
def toRng2 : D → D → M Its
  | .int i, .int j => if -1000000000 ≤ i ∧ i ≤ 1000000000 ∧ -1000000000 ≤ j ∧ j ≤ 1000000000 then pure ⟨rangeDs i (j - i).toNat, fun _ => true⟩ else no
  | _, _ => no
def iRg2 (f g : BE) : BI := fun env => f env >>= fun a => g env >>= fun b => toRng2 a b
section
variable {X : Cx} {T : Tb} {E : XKs} {tg : Expr}
/-- a value that is a list or a tuple -/
def iAny (K : PySem.W.Frag) (tl : TE) : TI := fun σ H R => tl σ H fun x H1 => ∃ a, x = .ref a ∧ (((∃ xs, SqL K H1 a xs) ∧ R (Itl K a) H1) ∨ ((∃ xs, SqT K H1 a xs) ∧ R (Itt K a) H1))
theorem pi_any {l : Expr} {tl : TE} (hl : PE X l tl) : PI X tg l (iAny X.K tl) :=
  ⟨fun pins s σ H R I h => thn (hl.run pins s σ H _ I h) fun v s1 ⟨x, H1, I1, r1, a, ex, q⟩ => by
    subst ex
    cases r1
    have fresh : ∀ {o : Obj}, ∀ b ∈ [s1.heap.objs.size], FpOk X pins H1 b := fun b hb => by
      have e : b = s1.heap.objs.size := List.mem_singleton.mp hb
      rw [e]
      exact I1.fpOk (Nat.le_refl _) (I1.hok.fresh (Nat.le_refl _))
    rcases q with ⟨⟨xs, hq⟩, q⟩ | ⟨⟨xs, hq⟩, q⟩
    · obtain ⟨its, rv, p, hz⟩ := I1.list hq
      exact wpAny_pyIter_list p.isList ⟨_, [s1.heap.objs.size], _, _, H1, rfl, I1.kept (t' := s1.toks) fun b o e => Heap.get?_push_of_some _ e, turn_list a _, ⟨_, Heap.get?_push_size _ rfl, rfl, rfl⟩, fresh (o := default), q⟩
    · obtain ⟨its, rv, p, hz⟩ := I1.tuple hq
      exact wpAny_pyIter_tuple p ⟨_, [s1.heap.objs.size], _, _, H1, rfl, I1.kept (t' := s1.toks) fun b o e => Heap.get?_push_of_some _ e, turn_tuple a _, ⟨_, Heap.get?_push_size _ rfl, rfl, rfl⟩, fresh (o := default), q⟩⟩
theorem di_seq {e : Expr} {f : BE} (h : DE X T E e f) : DI X T E tg e (iSeq f) :=
  ⟨(pi_any h.pe).monoZ fun σ H Q ⟨env, S, O, re, so, q⟩ => ⟨env, S, O, re, so, PoI.bind q fun d S1 O1 H1 x l s1 r1 q1 => by
    unfold toIts at q1
    split at q1
    · rename_i k p e
      obtain ⟨a, rfl, sr, g⟩ := src_ok s1 r1 e
      refine ⟨a, rfl, ?_⟩
      cases k with
      | l => exact .inl ⟨sr.here s1 g, q1 O1 H1 _ Le.refl s1 (dlv_l sr)⟩
      | t => exact .inr ⟨sr.here s1 g, q1 O1 H1 _ Le.refl s1 (dlv_t sr)⟩
    · exact q1.elim⟩⟩
theorem di_zip {e e2 : Expr} {f g : BE} {p pos tpos : Pos} {elts : List Expr} {kk : Nat} (ha : DE X T E e f) (hb : DE X T E e2 g) (hm : X.mg "zip" = none) (hg : Gl X "zip" := by rfl)
    (hs : starEach [e, e2] X.env = (false, eval e X.env) :: starEach [e2] X.env := by rfl) (hpl : (backTo pos (starEach [e2] X.env)).any (·.1) = false := by rfl) (h2 : starEach [e2] X.env = [(false, eval e2 X.env)] := by rfl) :
    DI X T E (.Tuple elts kk tpos) (.Call (.Name "zip" p) [e, e2] [] pos) (iZp f g) :=
  ⟨(RZ.pi_zipA hg hm (pa_cons ha.pe (pa_cons hb.pe pa_nil (by rw [h2]; rfl)) hs) hs hpl).monoZ fun σ H Q ⟨env, S, O, re, so, q⟩ => ⟨env, S, O, re, so, PoI.bind q fun a S1 O1 H1 x l s1 r1 q1 =>
    ⟨env, S1, O1, re.mono l, s1, PoI.bind q1 fun b S2 O2 H2 y l2 s2 r2 q2 => by
      unfold toZip at q2
      split at q2
      · rename_i p q ea eb
        obtain ⟨a1, rfl, sr, ga⟩ := src_ok s2 (r1.le l2) ea
        obtain ⟨b1, rfl, sr', gb⟩ := src_ok s2 r2 eb
        obtain ⟨vs, hv⟩ := sr.here s2 ga
        obtain ⟨us, hu⟩ := sr'.here s2 gb
        exact ⟨a1, b1, vs, us, rfl, .inl ⟨hv, hu, q2 O2 H2 _ Le.refl s2 (dlv_zl sr sr')⟩⟩
      · rename_i p q ea eb
        obtain ⟨a1, rfl, sr, ga⟩ := src_ok s2 (r1.le l2) ea
        obtain ⟨b1, rfl, sr', gb⟩ := src_ok s2 r2 eb
        obtain ⟨vs, hv⟩ := sr.here s2 ga
        obtain ⟨us, hu⟩ := sr'.here s2 gb
        exact ⟨a1, b1, vs, us, rfl, .inr ⟨hv, hu, q2 O2 H2 _ Le.refl s2 (dlv_zt sr sr')⟩⟩
      · exact q2.elim⟩⟩⟩
theorem di_range {a : Expr} {f : BE} {p pos : Pos} (ha : DE X T E a f) (hm : X.mg "range" = none) (hg : Gl X "range" := by rfl) (hs : starEach [a] X.env = [(false, eval a X.env)] := by rfl) : DI X T E tg (.Call (.Name "range" p) [a] [] pos) (iRg f) :=
  ⟨(pi_range1 hg hm (pa_cons ha.pe pa_nil (by rw [hs]; rfl)) hs).monoZ fun σ H Q ⟨env, S, O, re, so, q⟩ => ⟨env, S, O, re, so, PoI.bind q fun d S1 O1 H1 x l s1 r1 q1 => by
    unfold toRng at q1
    split at q1
    · split at q1
      · rename_i hb
        cases r1
        exact ⟨_, rfl, lo62 hb.1, hi62 hb.2, q1 O1 H1 _ Le.refl s1 dlv_r⟩
      · exact q1.elim
    · exact q1.elim⟩⟩
theorem di_range2 {a b : Expr} {f g : BE} {p pos : Pos} (ha : DE X T E a f) (hb : DE X T E b g) (hm : X.mg "range" = none) (hg : Gl X "range" := by rfl) (hs : starEach [a, b] X.env = [(false, eval a X.env), (false, eval b X.env)] := by rfl) (hs2 : starEach [b] X.env = [(false, eval b X.env)] := by rfl) :
    DI X T E tg (.Call (.Name "range" p) [a, b] [] pos) (iRg2 f g) :=
  ⟨(pi_range2 hg hm (pa_cons ha.pe (pa_cons hb.pe pa_nil (by rw [hs2]; rfl)) (by rw [hs, hs2])) hs hs2).monoZ fun σ H Q ⟨env, S, O, re, so, q⟩ => ⟨env, S, O, re, so, PoI.bind q fun d S1 O1 H1 x l s1 r1 q1 =>
    ⟨env, S1, O1, re.mono l, s1, PoI.bind q1 fun d2 S2 O2 H2 y l2 s2 r2 q2 => by
      unfold toRng2 at q2
      split at q2
      · split at q2
        · rename_i hb
          cases r1
          cases r2
          exact ⟨_, _, rfl, ⟨lo62 hb.1, hi62 hb.2.1, lo62 hb.2.2.1, hi62 hb.2.2.2⟩, q2 O2 H2 _ Le.refl s2 dlv_r⟩
        · exact q2.elim
      · exact q2.elim⟩⟩⟩
end

/-! ### for, while -/
def forM (gd : Store → Bool) (t : Tg) (b : BS) : List D → Ev → Store → SR
  | [], env, S => if gd S = true then .next env S else .no
  | d :: ds, env, S => if gd S = true then (match asg S t d env with
    | none => .no
    | some env1 => match b env1 S with
      | .next e S' => forM gd t b ds e S'
      | .cont e S' => forM gd t b ds e S'
      | .brk e S' => .next e S'
      | .ret d S' => .ret d S'
      | .err c e S' => .err c e S'
      | .no => .no) else .no
def sFor (i : BI) (t : Tg) (b : BS) : BS := fun env S => thenS (i env S) env fun p S' => forM p.gd t b p.ds env S'
def whileM (c : BT) (b : BS) : Nat → Ev → Store → SR
  | 0, _, _ => .no
  | n + 1, env, S => thenS (c env S) env fun k S1 => if k = true then (match b env S1 with
      | .next e S' => whileM c b n e S'
      | .cont e S' => whileM c b n e S'
      | .brk e S' => .next e S'
      | .ret d S' => .ret d S'
      | .err x e S' => .err x e S'
      | .no => .no) else .next env S1
section
variable {X : Cx} {T : Tb} {E : XKs} {k : Nat}
theorem PoS.imp {K : PySem.W.Frag} {mg : Str → Option Value} {r : SR} {O : Ow} {H : Hp} {Dn Dn' : Ends} (h : PoS K mg T r O H Dn E) (h1 : ∀ σ H, Dn.nx σ H → Dn'.nx σ H) (h2 : ∀ v H, Dn.rt v H → Dn'.rt v H) (h3 : ∀ σ H, Dn.bk σ H → Dn'.bk σ H) (h4 : ∀ σ H, Dn.ct σ H → Dn'.ct σ H) : PoS K mg T r O H Dn' E := by
  cases r with
  | next a S' => exact fun O2 H2 b l2 s q => h1 _ _ (h O2 H2 b l2 s q)
  | ret a S' => exact fun O2 H2 b l2 s q => h2 _ _ (h O2 H2 b l2 s q)
  | brk a S' => exact fun O2 H2 b l2 s q => h3 _ _ (h O2 H2 b l2 s q)
  | cont a S' => exact fun O2 H2 b l2 s q => h4 _ _ (h O2 H2 b l2 s q)
  | err c e S' => exact h
  | no => exact h
theorem ds_for {tg iter : Expr} {body : List Stmt} {i : BI} {t : Tg} {b : BS} {pos : Pos} (c : Cok X E k) (hi : DI X T E tg iter i) (hg : DG X tg t) (hb : DSs X T E body b) (hs : ∀ x, foldedSetIterable iter X.env x = pure x := by intro _; rfl) : DS X T E (.For tg iter body [] pos) (sFor i t b) := by
  refine ⟨(ps_for c.own c.calm hi.pi hg.pg hb.pss hs).monoZ fun Dn σ H ⟨env, S, O, re, so, q⟩ => ⟨env, S, O, re, so, ?_⟩⟩
  unfold sFor at q
  cases e : i env S with
  | no => rw [e] at q; exact q
  | err x S1 => rw [e] at q; exact fun O1 H1 C l s z => q O1 H1 σ C l s (re.mono l) z
  | ok p S1 =>
    rw [e] at q
    intro O1 H1 J l so1 dl
    obtain ⟨Kp, d1, d2, d3⟩ := dl
    refine ⟨fun i m σ H => m = p.ds.length - i ∧ i ≤ p.ds.length ∧ ∃ env S O, REnv X.K X.mg O.cs (hide O H) σ env ∧ SOk X.K X.mg T O H S ∧ Kp O H ∧ PoS X.K X.mg T (forM p.gd t b (p.ds.drop i) env S) O H Dn E,
      ⟨p.ds.length, by simp, Nat.zero_le _, env, S1, O1, re.mono l, so1, d1, PoS.le q l⟩, ?_⟩
    rintro i m σ2 H2 ⟨rfl, hi, env2, S2, O2, re2, so2, hk, q2⟩
    by_cases hlt : i < p.ds.length
    · rw [List.drop_eq_getElem_cons hlt, forM] at q2
      split at q2
      · rename_i hg
        obtain ⟨hgo, _⟩ := d3 i O2 H2 S2 hk so2 hg
        obtain ⟨go, hy⟩ := hgo _ (List.getElem?_eq_getElem hlt)
        refine .inr ⟨go, fun σ' H' => ∃ env S O, REnv X.K X.mg O.cs (hide O H') σ' env ∧ SOk X.K X.mg T O H' S ∧ Kp O H' ∧ PoS X.K X.mg T (forM p.gd t b (p.ds.drop (i + 1)) env S) O H' Dn E,
          fun σ' H' n => ⟨p.ds.length - (i + 1), by omega, rfl, by omega, n⟩, fun x H3 yx => ?_⟩
        obtain ⟨l3, so3, r3⟩ := hy x H3 yx
        cases ea : asg S2 t p.ds[i] env2 with
        | none => rw [ea] at q2; exact q2.elim
        | some env3 =>
          rw [ea] at q2
          dsimp only at q2
          refine gT_ok t (re2.mono l3) r3 ea fun σ4 re4 _ => ⟨env3, S2, O2, re4, so3, ?_⟩
          cases eb : b env3 S2 with
          | next e4 S4 => rw [eb] at q2; exact fun O5 H5 σ5 l5 s5 r5 => ⟨e4, S4, O5, r5, s5, d2 _ _ _ _ hk (l3.trans l5).w, PoS.le q2 (l3.trans l5)⟩
          | cont e4 S4 => rw [eb] at q2; exact fun O5 H5 σ5 l5 s5 r5 => ⟨e4, S4, O5, r5, s5, d2 _ _ _ _ hk (l3.trans l5).w, PoS.le q2 (l3.trans l5)⟩
          | brk e4 S4 => rw [eb] at q2; exact fun O5 H5 σ5 l5 s5 r5 => q2 O5 H5 σ5 (l3.trans l5) s5 r5
          | ret d4 S4 => rw [eb] at q2; exact fun O5 H5 v l5 s5 r5 => q2 O5 H5 v (l3.trans l5) s5 r5
          | err x4 e4 S4 => rw [eb] at q2; exact fun O5 H5 σ5 C l5 s5 r5 z => q2 O5 H5 σ5 C (l3.trans l5) s5 r5 z
          | no => rw [eb] at q2; exact q2
      · exact q2.elim
    · have ei : i = p.ds.length := by omega
      subst ei
      rw [List.drop_length, forM] at q2
      split at q2
      · rename_i hg
        obtain ⟨_, hst⟩ := d3 _ O2 H2 S2 hk so2 hg
        exact .inl ⟨hst (Nat.le_refl _), q2 O2 H2 σ2 Le.refl so2 re2⟩
      · exact q2.elim
theorem ds_while {c : Expr} {body : List Stmt} {t : BT} {b : BS} {n : Nat} {pos : Pos} (ck : Cok X E k) (hc : DT X T E c t) (hb : DSs X T E body b) : DS X T E (.While c body [] pos) (whileM t b n) := by
  refine ⟨(ps_while ck.own hc.pt hb.pss).monoZ fun Dn σ H ⟨env, S, O, re, so, q⟩ => ?_⟩
  refine ⟨fun m σ H => ∃ env S O, REnv X.K X.mg O.cs (hide O H) σ env ∧ SOk X.K X.mg T O H S ∧ PoS X.K X.mg T (whileM t b m env S) O H Dn E, ⟨n, env, S, O, re, so, q⟩, ?_⟩
  rintro m σ2 H2 ⟨env2, S2, O2, re2, so2, q2⟩
  cases m with
  | zero => exact q2.elim
  | succ m =>
    rw [whileM] at q2
    refine ⟨env2, S2, O2, re2, so2, PoS.bind re2 q2 fun kk S3 O3 H3 bb l3 so3 r3 q3 => ?_⟩
    cases r3
    cases kk with
    | false => exact q3 O3 H3 σ2 Le.refl so3 (re2.mono l3)
    | true =>
      refine ⟨fun σ' H' => ∃ env S O, REnv X.K X.mg O.cs (hide O H') σ' env ∧ SOk X.K X.mg T O H' S ∧ PoS X.K X.mg T (whileM t b m env S) O H' Dn E, fun σ' H' h => ⟨m, Nat.lt_succ_self _, h⟩, env2, S3, O3, re2.mono l3, so3, ?_⟩
      simp only [if_true] at q3
      cases eb : b env2 S3 with
      | next e4 S4 => rw [eb] at q3; exact fun O5 H5 σ5 l5 s5 r5 => ⟨e4, S4, O5, r5, s5, PoS.le q3 l5⟩
      | cont e4 S4 => rw [eb] at q3; exact fun O5 H5 σ5 l5 s5 r5 => ⟨e4, S4, O5, r5, s5, PoS.le q3 l5⟩
      | brk e4 S4 => rw [eb] at q3; exact q3
      | ret d4 S4 => rw [eb] at q3; exact q3
      | err x4 e4 S4 => rw [eb] at q3; exact q3
      | no => rw [eb] at q3; exact q3
end
end Z
end
section
set_option maxHeartbeats 4000000
namespace Z
open PySem PySem.Spec PyProof.Rows L2

/-! ### comprehensions -/
def wipeE (env : Ev) : List Nat → Ev
  | [] => env
  | v :: vs => (wipeE env vs).set v none
theorem wipe_len (env : Ev) : ∀ vs, (wipeE env vs).length = env.length
  | [] => rfl
  | v :: vs => by simp [wipeE, wipe_len env vs]
theorem wipe_get {env : Ev} {σ : L2.St} (hl : σ.length = env.length) {i : Nat} {d : D} : ∀ {vs : List Nat}, (wipeE env vs)[i]? = some (some d) → env[i]? = some (some d) ∧ (wipe σ vs)[i]? = σ[i]?
  | [], h => ⟨h, rfl⟩
  | v :: vs, h => by
    unfold wipeE at h
    unfold wipe
    by_cases hi : v = i
    · subst hi
      by_cases hv : v < (wipeE env vs).length
      · rw [List.getElem?_set_self hv] at h; cases h
      · rw [List.getElem?_eq_none (by simpa using hv)] at h; cases h
    · rw [List.getElem?_set_ne hi] at h ⊢
      exact wipe_get hl h
theorem REnv.wipe {K : PySem.W.Frag} {mg : Str → Option Value} {O : List Addr} {G : Hp} {σ : L2.St} {env : Ev} (h : REnv K mg O G σ env) (vs : List Nat) : REnv K mg O G (L2.wipe σ vs) (wipeE env vs) :=
  ⟨by rw [wipe_length, wipe_len, h.1], fun i d e => by
    obtain ⟨h1, h2⟩ := wipe_get h.1 e
    obtain ⟨v, h3, h4⟩ := h.2 i d h1
    exact ⟨v, by rw [h2]; exact h3, h4⟩⟩
def compM (gd : Store → Bool) (t : Tg) (tt : BT) (f : BE) (env : Ev) : List D → List D → Store → Res (List D)
  | [], acc, S => if gd S = true then .ok acc S else .no
  | d :: ds, acc, S => if gd S = true then (match asg S t d env with
    | none => .no
    | some env1 => match tt env1 S with
      | .ok true S1 => (match f env1 S1 with
        | .ok y S2 => if acc.length < 1000000 then compM gd t tt f env ds (acc ++ [y]) S2 else .no
        | _ => .no)
      | .ok false S1 => compM gd t tt f env ds acc S1
      | _ => .no) else .no
def runLc (t : Tg) (tt : BT) (f : BE) (env : Ev) (p : Its) : M (List D) := compM p.gd t tt f env p.ds []
def eLc (vs : List Nat) (i : BI) (t : Tg) (tt : BT) (f : BE) : BE := fun env => i env >>= fun p => runLc t tt f (wipeE env vs) p >>= fun ds => pure (.list ds)
def eLcC (vs : List Nat) (i : BI) (t : Tg) (tt : BT) (f : BE) : BE := fun env => i env >>= fun p => runLc t tt f (wipeE env vs) p >>= fun ds => newCell ds
def bYes : BT := fun _ => pure true
structure DTs (X : Cx) (T : Tb) (E : XKs) (es : List Expr) (f : BT) : Prop where
  pt : PTs X es (tDT X.K X.mg T E f)
theorem dts_nil {X : Cx} {T : Tb} {E : XKs} : DTs X T E [] bYes := ⟨⟨fun pins s σ H Q I h => by
  obtain ⟨env, S, O, re, so, q⟩ := h
  exact pts_nil.run pins s σ H Q I (q O H true Le.refl so rfl)⟩⟩
theorem dts_one {X : Cx} {T : Tb} {E : XKs} {c : Expr} {f : BT} (h : DT X T E c f) : DTs X T E [c] f := ⟨pts_one h.pt⟩
/-- the list at p is being made -/
structure LeM (p : Addr) (O : Ow) (H : Hp) (O' : Ow) (H' : Hp) : Prop where
  pre : ∃ r, O'.cs = O.cs ++ r
  pv : O'.pv = p :: O.pv
  same : Same (hide O H) (hide O' H')
  keep : ∀ q ∈ O.pv, ∀ vs, H q = some (.lst vs) → H' q = some (.lst vs)
  np : p ∉ O.pv
section
variable {K : PySem.W.Frag} {mg : Str → Option Value} {T : Tb} {O O1 O2 : Ow} {H H1 H2 : Hp} {S : Store} {p : Addr}
theorem LeM.w (l : LeM p O H O1 H1) : Lw O H O1 H1 := ⟨l.pre, l.same⟩
theorem LeM.start (so : SOk K mg T O H S) (h : H p = none) : LeM p O H (O.make p) (upd H p (.lst [])) :=
  ⟨⟨[], by simp [Ow.make]⟩, rfl, by rw [hide_make h]; exact Same.refl _, fun q hq vs e => by
    rw [upd_ne (ne_of_none e h)]
    exact e, fun z => so.ne h (.inr z)⟩
theorem LeM.le (a : LeM p O H O1 H1) (b : Le O1 H1 O2 H2) : LeM p O H O2 H2 := by
  obtain ⟨r, e⟩ := a.pre
  obtain ⟨r', e'⟩ := b.pre
  exact ⟨⟨r ++ r', by rw [e', e]; simp⟩, b.pv.trans a.pv, a.same.trans b.same, fun q hq vs h => b.keep q (by rw [a.pv]; exact List.mem_cons_of_mem _ hq) vs (a.keep q hq vs h), a.np⟩
theorem LeM.made {vs : List V} (a : LeM p O H O1 H1) : LeM p O H O1 (upd H1 p (.lst vs)) :=
  ⟨a.pre, a.pv, by rw [hide_made (by rw [a.pv]; exact List.mem_cons_self)]; exact a.same, fun q hq us h => by
    rw [upd_ne (fun z => a.np (by rw [← z]; exact hq))]
    exact a.keep q hq us h, a.np⟩
theorem LeM.done (a : LeM p O H O1 H1) : Le O H (O1.done O.pv) H1 := ⟨a.pre, rfl, a.same.trans (hide_done a.pv), a.keep⟩
theorem LeM.cell (a : LeM p O H O1 H1) (so : SOk K mg T O1 H1 S) : Le O H ⟨O1.cs ++ [p], O.pv⟩ H1 := by
  obtain ⟨r, e⟩ := a.pre
  refine ⟨⟨r ++ [p], by rw [e]; simp⟩, rfl, a.same.trans fun b o h => ?_, a.keep⟩
  obtain ⟨n, h, t⟩ := hide_le h
  refine hide_of ?_ h t
  rintro (z | z)
  · rcases List.mem_append.mp z with z | z
    · exact n (.inl z)
    · exact n (.inr (by rw [a.pv, List.mem_singleton.mp z]; exact List.mem_cons_self))
  · exact n (.inr (by rw [a.pv]; exact List.mem_cons_of_mem _ z))
end
section
variable {X : Cx} {T : Tb} {E : XKs} {k : Nat}
/-- the loop of a comprehension, whatever becomes of the list -/
theorem lc_run {J : It} {g : TG} {tt : BT} {f : BE} {t : Tg} {vs : List Nat} {p : Its} {σ : L2.St} {env : Ev} {S : Store} {O : Ow} {H : Hp} {Qd : Addr → Hp → Prop} (eg : g = gT X.K t) (hv : ∀ i ∈ t.slots, i ∈ vs) (re : REnv X.K X.mg O.cs (hide O H) σ env) (so : SOk X.K X.mg T O H S) (dl : Dlv X.K X.mg T J p O H) (L : Addr) (hL : H L = none)
    (q : ∀ acc S', runLc t tt f (wipeE env vs) p S = .ok acc S' → ∀ O' H' us, LeM L O H O' H' → SOk X.K X.mg T O' H' S' → H' L = some (.lst us) → Rps X.K X.mg O'.cs (hide O' H') us acc → Qd L H') (hr : ∃ acc S', runLc t tt f (wipeE env vs) p S = .ok acc S') :
    ∃ W : Nat → Nat → Hp → Prop, (∃ m, W 0 m (upd H L (.lst []))) ∧ ∀ i m H, W i m H → (J.stop i H ∧ Qd L H) ∨ (J.go i H ∧ ∃ Nx : Hp → Prop, (∀ H', Nx H' → ∃ m', m' < m ∧ W (i + 1) m' H') ∧ ∀ x H', J.yld i H x H' →
      g x (L2.wipe σ vs) H' fun σ2 H2 => L2.wipe σ2 vs = L2.wipe σ vs ∧ tDT X.K X.mg T E0s tt σ2 H2 fun b H3 => if b = true then tD X.K X.mg T E0s f σ2 H3 fun y H4 => ∃ acc, H4 L = some (.lst acc) ∧ acc.length < sizeLine ∧ Nx (upd H4 L (.lst (acc ++ [y]))) else Nx H3) := by
  subst eg
  obtain ⟨accE, SE, hE⟩ := hr
  obtain ⟨Kp, d1, d2, d3⟩ := dl
  let St' : Nat → Hp → Prop := fun i H' => ∃ O' S' us acc, LeM L O H O' H' ∧ SOk X.K X.mg T O' H' S' ∧ Kp O' H' ∧ H' L = some (.lst us) ∧ Rps X.K X.mg O'.cs (hide O' H') us acc ∧ compM p.gd t tt f (wipeE env vs) (p.ds.drop i) acc S' = .ok accE SE
  refine ⟨fun i m H' => m = p.ds.length - i ∧ i ≤ p.ds.length ∧ St' i H', ⟨p.ds.length, by simp, Nat.zero_le _, O.make L, S, [], [], LeM.start so hL, so.make hL, d2 _ _ _ _ d1 (LeM.start so hL).w, upd_same, .nil, hE⟩, ?_⟩
  rintro i m H2 ⟨rfl, hi, O2, S2, us, acc, lm, so2, hk, hu, ra, e2⟩
  by_cases hlt : i < p.ds.length
  · rw [List.drop_eq_getElem_cons hlt, compM] at e2
    split at e2
    · rename_i hg
      obtain ⟨hgo, _⟩ := d3 i O2 H2 S2 hk so2 hg
      obtain ⟨go, hy⟩ := hgo _ (List.getElem?_eq_getElem hlt)
      refine .inr ⟨go, St' (i + 1), fun H' n => ⟨p.ds.length - (i + 1), by omega, rfl, by omega, n⟩, fun x H3 yx => ?_⟩
      obtain ⟨l3, so3, r3⟩ := hy x H3 yx
      cases ea : asg S2 t p.ds[i] (wipeE env vs) with
      | none => rw [ea] at e2; cases e2
      | some env3 =>
        rw [ea] at e2
        dsimp only at e2
        have lm3 := lm.le l3
        have re3 : REnv X.K X.mg O2.cs (hide O2 H3) (L2.wipe σ vs) (wipeE env vs) := by
          have := re.wipe vs
          exact ⟨this.1, fun i d e => by
            obtain ⟨v, h1, h2⟩ := this.2 i d e
            exact ⟨v, h1, h2.mono lm3.pre lm3.same⟩⟩
        refine gT_ok t re3 r3 ea fun σ4 re4 on => ⟨?_, ?_⟩
        · have hw := wipe_eq (σ := L2.wipe σ vs) (σ' := σ4) (vs := vs) ⟨on.1, fun j hj => on.2 j fun z => hj (hv j z)⟩
          have hww : L2.wipe (L2.wipe σ vs) vs = L2.wipe σ vs := wipe_eq ⟨wipe_length σ vs, fun j hj => wipe_out hj⟩
          rw [hw, hww]
        · refine ⟨env3, S2, O2, re4, so3, ?_⟩
          have hL3 : H3 L = some (.lst us) := l3.keep L (by rw [lm.pv]; exact List.mem_cons_self) us hu
          cases et : tt env3 S2 with
          | err c S5 => rw [et] at e2; cases e2
          | no => rw [et] at e2; cases e2
          | ok b S5 =>
            rw [et] at e2
            intro O5 H5 b' l5 so5 eb
            cases eb
            have lm5 := lm3.le l5
            have hL5 : H5 L = some (.lst us) := l5.keep L (by rw [lm3.pv]; exact List.mem_cons_self) us hL3
            have k5 : Kp O5 H5 := d2 _ _ _ _ hk (l3.trans l5).w
            have ra5 : Rps X.K X.mg O5.cs (hide O5 H5) us acc := ra.le (l3.trans l5)
            cases b with
            | false => exact ⟨O5, S5, us, acc, lm5, so5, k5, hL5, ra5, e2⟩
            | true =>
              dsimp only at e2
              refine ⟨env3, S5, O5, re4.mono l5, so5, ?_⟩
              cases ef : f env3 S5 with
              | err c S6 => rw [ef] at e2; cases e2
              | no => rw [ef] at e2; cases e2
              | ok y S6 =>
                rw [ef] at e2
                dsimp only at e2
                split at e2
                · rename_i hacc
                  intro O6 H6 v l6 so6 ry
                  have lm6 := lm5.le l6
                  have hL6 : H6 L = some (.lst us) := l6.keep L (by rw [lm5.pv]; exact List.mem_cons_self) us hL5
                  have mem : L ∈ O6.pv := by rw [lm6.pv]; exact List.mem_cons_self
                  refine ⟨us, hL6, by rw [ra5.length]; exact Nat.lt_of_lt_of_le hacc (by decide), O6, S6, us ++ [v], acc ++ [y], lm6.made, so6.made mem, ?_, upd_same, ?_, e2⟩
                  · refine d2 _ _ _ _ k5 ⟨l6.pre, ?_⟩
                    rw [hide_made mem]
                    exact l6.same
                  · rw [hide_made mem]
                    exact (ra5.le l6).app (.cons ry .nil)
                · cases e2
    · cases e2
  · have ei : i = p.ds.length := by omega
    subst ei
    rw [List.drop_length, compM] at e2
    split at e2
    · rename_i hg
      cases e2
      obtain ⟨_, hst⟩ := d3 _ O2 H2 _ hk so2 hg
      exact .inl ⟨hst (Nat.le_refl _), q _ _ hE O2 H2 us lm so2 hu ra⟩
    · cases e2
theorem compM_err {gd : Store → Bool} {t : Tg} {tt : BT} {f : BE} {env : Ev} : ∀ {ds acc : List D} {S : Store} {c : Str} {S' : Store}, compM gd t tt f env ds acc S ≠ .err c S'
  | [], acc, S, c, S' => by
    rw [compM]
    split <;> (intro z; cases z)
  | d :: ds, acc, S, c, S' => by
    rw [compM]
    split
    · split
      · intro z; cases z
      · split
        · split
          · split
            · exact compM_err
            · intro z; cases z
          · intro z; cases z
        · exact compM_err
        · intro z; cases z
    · intro z; cases z
theorem lc_done {O O1 : Ow} {H H1 : Hp} {S1 : Store} {p : Addr} {us : List V} {acc : List D} {Q : VK} {Ex : XK} (lm : LeM p O H O1 H1) (so : SOk X.K X.mg T O1 H1 S1) (hu : H1 p = some (.lst us)) (r : Rps X.K X.mg O1.cs (hide O1 H1) us acc) (q : Po X.K X.mg T (Rp X.K X.mg) (.ok (.list acc) S1) O H Q Ex) : Q (.ref p) H1 := by
  have np := (so.own p (by rw [lm.pv]; exact List.mem_cons_self)).1
  refine q (O1.done O.pv) H1 (.ref p) lm.done (so.done lm.pv) (.lst (hide_of ?_ hu) (r.mono ⟨[], by simp [Ow.done]⟩ (hide_done lm.pv)))
  rintro (z | z)
  · exact np z
  · exact lm.np z
theorem lc_cell {O O1 : Ow} {H H1 : Hp} {S1 : Store} {p : Addr} {us : List V} {acc : List D} {Q : VK} {Ex : XK} (lm : LeM p O H O1 H1) (so : SOk X.K X.mg T O1 H1 S1) (hu : H1 p = some (.lst us)) (r : Rps X.K X.mg O1.cs (hide O1 H1) us acc) (q : Po X.K X.mg T (Rp X.K X.mg) (newCell acc S1) O H Q Ex) : Q (.ref p) H1 := by
  unfold newCell at q
  split at q
  · rename_i hf
    have np := (so.own p (by rw [lm.pv]; exact List.mem_cons_self)).1
    have l := lm.cell so
    have vis : Same (hide O1 H1) (hide ⟨O1.cs ++ [p], O.pv⟩ H1) := fun b o h => by
      obtain ⟨n, h, t⟩ := hide_le h
      refine hide_of ?_ h t
      rintro (z | z)
      · rcases List.mem_append.mp z with z | z
        · exact n (.inl z)
        · exact n (.inr (by rw [lm.pv, List.mem_singleton.mp z]; exact List.mem_cons_self))
      · exact n (.inr (by rw [lm.pv]; exact List.mem_cons_of_mem _ z))
    refine q ⟨O1.cs ++ [p], O.pv⟩ H1 (.ref p) l ⟨by simp [so.len], ?_, fun m b c e1 e2 => ?_, so.tabs, T.mono ⟨⟨[p], rfl⟩, vis⟩ so.inv, fun x hx => ?_⟩ (.cell (by rw [← so.len, List.getElem?_append_right (Nat.le_refl _)]; simp))
    · show (O1.cs ++ [p]).Nodup
      rw [List.nodup_append]
      exact ⟨so.nd, by simp, by simpa using fun a ha e => np (by rw [← e]; exact ha)⟩
    · by_cases hm : m < O1.cs.length
      · have e1 : O1.cs[m]? = some b := by
          have e1 : (O1.cs ++ [p])[m]? = some b := e1
          rw [List.getElem?_append_left hm] at e1
          exact e1
        rw [List.getElem?_append_left (by rw [← so.len]; exact hm)] at e2
        have := so.cell m b c e1 e2
        cases c with
        | lst ds' =>
          obtain ⟨vs', z, t'⟩ := this
          exact ⟨vs', z, t'.mono ⟨[], rfl⟩ vis⟩
      · have e1 : ([p] : List Addr)[m - O1.cs.length]? = some b := by
          have e1 : (O1.cs ++ [p])[m]? = some b := e1
          rw [List.getElem?_append_right (by omega)] at e1
          exact e1
        rw [List.getElem?_append_right (by rw [← so.len]; omega)] at e2
        have : m - O1.cs.length = 0 := by
          have := (List.getElem?_eq_some_iff.mp e1).1
          simp at this
          omega
        rw [this] at e1
        rw [← so.len, this] at e2
        simp at e1 e2
        subst e1 e2
        exact ⟨us, hu, Rps.mono (O := []) (O' := []) ⟨[], rfl⟩ vis (r.fix hf)⟩
    · obtain ⟨h1, h2⟩ := so.own x (by rw [lm.pv]; exact List.mem_cons_of_mem _ hx)
      refine ⟨fun z => ?_, h2⟩
      rcases List.mem_append.mp z with z | z
      · exact h1 z
      · exact lm.np (by rw [← List.mem_singleton.mp z]; exact hx)
  · exact q.elim
theorem t_lc {wi : BI} {t : Tg} {tt : BT} {f : BE} {vs : List Nat} {fin : List D → M D} (hv : t.slots.all (fun i => vs.contains i) = true)
    (hfin : ∀ {O O1 : Ow} {H H1 : Hp} {S1 : Store} {p : Addr} {us : List V} {acc : List D} {Q : VK} {Ex : XK}, LeM p O H O1 H1 → SOk X.K X.mg T O1 H1 S1 → H1 p = some (.lst us) → Rps X.K X.mg O1.cs (hide O1 H1) us acc → Po X.K X.mg T (Rp X.K X.mg) (fin acc S1) O H Q Ex → Q (.ref p) H1) :
    ∀ σ H Q, tD X.K X.mg T E (fun env => wi env >>= fun p => runLc t tt f (wipeE env vs) p >>= fin) σ H Q → tLc (tDI X.K X.mg T E wi) (gT X.K t) (tDT X.K X.mg T E0s tt) (tD X.K X.mg T E0s f) vs σ H Q := fun σ H Q ⟨env, S, O, re, so, q⟩ => by
  refine ⟨env, S, O, re, so, ?_⟩
  have q : Po X.K X.mg T (Rp X.K X.mg) ((wi env >>= fun p => runLc t tt f (wipeE env vs) p >>= fin) S) O H Q (E σ) := q
  rw [bd_ap] at q
  cases e : wi env S with
  | no => rw [e] at q; exact q
  | err x S1 => rw [e] at q; exact q
  | ok p S1 =>
    rw [e] at q
    intro O1 H1 J l so1 dl
    have q : Po X.K X.mg T (Rp X.K X.mg) ((runLc t tt f (wipeE env vs) p >>= fin) S1) O H Q (E σ) := q
    rw [bd_ap] at q
    cases e2 : runLc t tt f (wipeE env vs) p S1 with
    | no => rw [e2] at q; exact q.elim
    | err x S2 => exact absurd e2 compM_err
    | ok acc S2 =>
      rw [e2] at q
      have hv' : ∀ i ∈ t.slots, i ∈ vs := fun i hi => by simpa using List.all_eq_true.mp hv i hi
      exact fun L hL => lc_run (Qd := fun L H => Q (.ref L) H) rfl hv' (re.mono l) so1 dl L hL (fun acc' S' h O' H' us lm so' hu r => by
        rw [e2] at h
        cases h
        exact hfin lm so' hu r (Po.le q l)) ⟨acc, S2, e2⟩
section
variable {elt tg iter : Expr} {ifs : List Expr} {scope : Scope} {pos : Pos} {wi : BI} {t : Tg} {tt : BT} {f : BE}
theorem de_lcF {fin : List D → M D} (own : List (Str × Nat)) (c : Cok X E k) (hi : DI X T E tg iter wi) (ok : BlkOk X.N X.env.scope scope own) (hv : t.slots.all (fun i => (own.map (·.2)).contains i) = true)
    (hfin : ∀ {O O1 : Ow} {H H1 : Hp} {S1 : Store} {p : Addr} {us : List V} {acc : List D} {Q : VK} {Ex : XK}, LeM p O H O1 H1 → SOk X.K X.mg T O1 H1 S1 → H1 p = some (.lst us) → Rps X.K X.mg O1.cs (hide O1 H1) us acc → Po X.K X.mg T (Rp X.K X.mg) (fin acc S1) O H Q Ex → Q (.ref p) H1)
    (hg : ∀ (s : Shared) (H : Hp) (C : Addr) (cl : List (Str × Addr)) (fp : List Addr), DG (X.blk s H scope (compEnvC scope cl C X.env) fp) tg t)
    (ht : ∀ (s : Shared) (H : Hp) (C : Addr) (cl : List (Str × Addr)) (fp : List Addr), Cok (X.blk s H scope (compEnvC scope cl C X.env) fp) E0s k → DTs (X.blk s H scope (compEnvC scope cl C X.env) fp) T E0s ifs tt)
    (he : ∀ (s : Shared) (H : Hp) (C : Addr) (cl : List (Str × Addr)) (fp : List Addr), Cok (X.blk s H scope (compEnvC scope cl C X.env) fp) E0s k → DE (X.blk s H scope (compEnvC scope cl C X.env) fp) T E0s elt f)
    (hs : ∀ x, foldedSetIterable iter X.env x = pure x) : DE X T E (.ListComp elt [⟨tg, iter, ifs, 0⟩] scope pos) (fun env => wi env >>= fun p => runLc t tt f (wipeE env (own.map (·.2))) p >>= fin) :=
  ⟨(pe_lc c.calm c.nd hi.pi ok (fun s H C cl fp => (hg s H C cl fp).pg) (fun s H C cl fp => (ht s H C cl fp (c.blk ..)).pt) (fun s H C cl fp => (he s H C cl fp (c.blk ..)).pe) hs).monoZ (t_lc hv hfin)⟩
theorem de_lc (own : List (Str × Nat)) (c : Cok X E k) (hi : DI X T E tg iter wi)
    (hg : ∀ (s : Shared) (H : Hp) (C : Addr) (cl : List (Str × Addr)) (fp : List Addr), DG (X.blk s H scope (compEnvC scope cl C X.env) fp) tg t)
    (ht : ∀ (s : Shared) (H : Hp) (C : Addr) (cl : List (Str × Addr)) (fp : List Addr), Cok (X.blk s H scope (compEnvC scope cl C X.env) fp) E0s k → DTs (X.blk s H scope (compEnvC scope cl C X.env) fp) T E0s ifs tt)
    (he : ∀ (s : Shared) (H : Hp) (C : Addr) (cl : List (Str × Addr)) (fp : List Addr), Cok (X.blk s H scope (compEnvC scope cl C X.env) fp) E0s k → DE (X.blk s H scope (compEnvC scope cl C X.env) fp) T E0s elt f)
    (ok : BlkOk X.N X.env.scope scope own := by exact blkOk_by (by decide +kernel)) (hv : t.slots.all (fun i => (own.map (·.2)).contains i) = true := by rfl) (hs : ∀ x, foldedSetIterable iter X.env x = pure x := by intro _; rfl) :
    DE X T E (.ListComp elt [⟨tg, iter, ifs, 0⟩] scope pos) (eLc (own.map (·.2)) wi t tt f) := de_lcF own c hi ok hv lc_done hg ht he hs
theorem de_lcC (own : List (Str × Nat)) (c : Cok X E k) (hi : DI X T E tg iter wi)
    (hg : ∀ (s : Shared) (H : Hp) (C : Addr) (cl : List (Str × Addr)) (fp : List Addr), DG (X.blk s H scope (compEnvC scope cl C X.env) fp) tg t)
    (ht : ∀ (s : Shared) (H : Hp) (C : Addr) (cl : List (Str × Addr)) (fp : List Addr), Cok (X.blk s H scope (compEnvC scope cl C X.env) fp) E0s k → DTs (X.blk s H scope (compEnvC scope cl C X.env) fp) T E0s ifs tt)
    (he : ∀ (s : Shared) (H : Hp) (C : Addr) (cl : List (Str × Addr)) (fp : List Addr), Cok (X.blk s H scope (compEnvC scope cl C X.env) fp) E0s k → DE (X.blk s H scope (compEnvC scope cl C X.env) fp) T E0s elt f)
    (ok : BlkOk X.N X.env.scope scope own := by exact blkOk_by (by decide +kernel)) (hv : t.slots.all (fun i => (own.map (·.2)).contains i) = true := by rfl) (hs : ∀ x, foldedSetIterable iter X.env x = pure x := by intro _; rfl) :
    DE X T E (.ListComp elt [⟨tg, iter, ifs, 0⟩] scope pos) (eLcC (own.map (·.2)) wi t tt f) := de_lcF own c hi ok hv lc_cell hg ht he hs
/-- name = [..] on one line -/
theorem ds_lcF {fin : List D → M D} (i : Nat) {y : Str} {py spos : Pos} (own : List (Str × Nat)) (c : Cok X E k) (hi : DI X T E tg iter wi) (hy : X.N[i]? = some y) (hyl : X.env.scope.names.lookup y = some .local) (hsw : swapsWith (.ListComp elt [⟨tg, iter, ifs, 0⟩] scope pos) (some (.Name y py)) spos.line X.env = pure true) (ok : BlkOk X.N X.env.scope scope own) (hv : t.slots.all (fun i => (own.map (·.2)).contains i) = true)
    (hfin : ∀ {O O1 : Ow} {H H1 : Hp} {S1 : Store} {p : Addr} {us : List V} {acc : List D} {Q : VK} {Ex : XK}, LeM p O H O1 H1 → SOk X.K X.mg T O1 H1 S1 → H1 p = some (.lst us) → Rps X.K X.mg O1.cs (hide O1 H1) us acc → Po X.K X.mg T (Rp X.K X.mg) (fin acc S1) O H Q Ex → Q (.ref p) H1)
    (hg : ∀ (s : Shared) (H : Hp) (C : Addr) (cl : List (Str × Addr)) (fp : List Addr), DG (X.blk s H scope (compEnvC scope cl C X.env) fp) tg t)
    (ht : ∀ (s : Shared) (H : Hp) (C : Addr) (cl : List (Str × Addr)) (fp : List Addr), Cok (X.blk s H scope (compEnvC scope cl C X.env) fp) E0s k → DTs (X.blk s H scope (compEnvC scope cl C X.env) fp) T E0s ifs tt)
    (he : ∀ (s : Shared) (H : Hp) (C : Addr) (cl : List (Str × Addr)) (fp : List Addr), Cok (X.blk s H scope (compEnvC scope cl C X.env) fp) E0s k → DE (X.blk s H scope (compEnvC scope cl C X.env) fp) T E0s elt f)
    (hs : ∀ x, foldedSetIterable iter X.env x = pure x) : DS X T E (.Assign [.Name y py] (.ListComp elt [⟨tg, iter, ifs, 0⟩] scope pos) spos) (sSet i (fun env => wi env >>= fun p => runLc t tt f (wipeE env (own.map (·.2))) p >>= fin)) :=
  ⟨(ps_setLc c.calm c.nd hy hyl hsw hi.pi ok (fun s H C cl fp => (hg s H C cl fp).pg) (fun s H C cl fp => (ht s H C cl fp (c.blk ..)).pt) (fun s H C cl fp => (he s H C cl fp (c.blk ..)).pe) hs).monoZ fun Dn σ H ⟨env, S, O, re, so, q⟩ => by
    refine t_lc (wi := wi) (t := t) (tt := tt) (f := f) hv hfin σ H (fun x H1 => gName i x σ H1 Dn.nx) ⟨env, S, O, re, so, ?_⟩
    exact PoS.bind re q fun a S1 O1 H1 b l s r q1 => q1 O1 H1 _ Le.refl s ((re.mono l).set r)⟩
theorem ds_lc (i : Nat) {y : Str} {py spos : Pos} (own : List (Str × Nat)) (c : Cok X E k) (hi : DI X T E tg iter wi)
    (hg : ∀ (s : Shared) (H : Hp) (C : Addr) (cl : List (Str × Addr)) (fp : List Addr), DG (X.blk s H scope (compEnvC scope cl C X.env) fp) tg t)
    (ht : ∀ (s : Shared) (H : Hp) (C : Addr) (cl : List (Str × Addr)) (fp : List Addr), Cok (X.blk s H scope (compEnvC scope cl C X.env) fp) E0s k → DTs (X.blk s H scope (compEnvC scope cl C X.env) fp) T E0s ifs tt)
    (he : ∀ (s : Shared) (H : Hp) (C : Addr) (cl : List (Str × Addr)) (fp : List Addr), Cok (X.blk s H scope (compEnvC scope cl C X.env) fp) E0s k → DE (X.blk s H scope (compEnvC scope cl C X.env) fp) T E0s elt f)
    (hy : X.N[i]? = some y := by rfl) (hyl : X.env.scope.names.lookup y = some .local := by rfl) (hsw : swapsWith (.ListComp elt [⟨tg, iter, ifs, 0⟩] scope pos) (some (.Name y py)) spos.line X.env = pure true := by exact sw_true rfl rfl rfl (by decide +kernel))
    (ok : BlkOk X.N X.env.scope scope own := by exact blkOk_by (by decide +kernel)) (hv : t.slots.all (fun i => (own.map (·.2)).contains i) = true := by rfl) (hs : ∀ x, foldedSetIterable iter X.env x = pure x := by intro _; rfl) :
    DS X T E (.Assign [.Name y py] (.ListComp elt [⟨tg, iter, ifs, 0⟩] scope pos) spos) (sSet i (eLc (own.map (·.2)) wi t tt f)) := ds_lcF i own c hi hy hyl hsw ok hv lc_done hg ht he hs
theorem ds_lcC (i : Nat) {y : Str} {py spos : Pos} (own : List (Str × Nat)) (c : Cok X E k) (hi : DI X T E tg iter wi)
    (hg : ∀ (s : Shared) (H : Hp) (C : Addr) (cl : List (Str × Addr)) (fp : List Addr), DG (X.blk s H scope (compEnvC scope cl C X.env) fp) tg t)
    (ht : ∀ (s : Shared) (H : Hp) (C : Addr) (cl : List (Str × Addr)) (fp : List Addr), Cok (X.blk s H scope (compEnvC scope cl C X.env) fp) E0s k → DTs (X.blk s H scope (compEnvC scope cl C X.env) fp) T E0s ifs tt)
    (he : ∀ (s : Shared) (H : Hp) (C : Addr) (cl : List (Str × Addr)) (fp : List Addr), Cok (X.blk s H scope (compEnvC scope cl C X.env) fp) E0s k → DE (X.blk s H scope (compEnvC scope cl C X.env) fp) T E0s elt f)
    (hy : X.N[i]? = some y := by rfl) (hyl : X.env.scope.names.lookup y = some .local := by rfl) (hsw : swapsWith (.ListComp elt [⟨tg, iter, ifs, 0⟩] scope pos) (some (.Name y py)) spos.line X.env = pure true := by exact sw_true rfl rfl rfl (by decide +kernel))
    (ok : BlkOk X.N X.env.scope scope own := by exact blkOk_by (by decide +kernel)) (hv : t.slots.all (fun i => (own.map (·.2)).contains i) = true := by rfl) (hs : ∀ x, foldedSetIterable iter X.env x = pure x := by intro _; rfl) :
    DS X T E (.Assign [.Name y py] (.ListComp elt [⟨tg, iter, ifs, 0⟩] scope pos) spos) (sSet i (eLcC (own.map (·.2)) wi t tt f)) := ds_lcF i own c hi hy hyl hsw ok hv lc_cell hg ht he hs
end
end
end Z
end
section
set_option maxHeartbeats 4000000
namespace Z
open PySem PySem.Spec PyProof.Rows L2

/-! ### defs -/
def spD (K : PySem.W.Frag) (mg : Str → Option Value) (T : Tb) (n : Nat) (g : List D → M D) : Sp := fun vs H Q E => ∃ ds S O, ds.length = n ∧ Rps K mg O.cs (hide O H) vs ds ∧ SOk K mg T O H S ∧ Po K mg T (Rp K mg) (g ds S) O H Q E
structure Fn (P : Program) (w : World) (K : PySem.W.Frag) (mg : Str → Option Value) (base : Heap) (T : Tb) (k : Nat) (x : Str) (n : Nat) (g : List D → M D) : Prop where
  ex : ∃ f fd ps, mg x = some (.ref f) ∧ PySem.W.keepIn K (.ref f) = true ∧ Binds K fd ps [] ∧ ps.length = n ∧ FnOk P w K mg base (L2N.CX P w) k f fd ps (spD K mg T n g)
theorem Fn.mono {P : Program} {w : World} {K : PySem.W.Frag} {mg : Str → Option Value} {base : Heap} {T : Tb} {j k : Nat} {x : Str} {n : Nat} {g : List D → M D} (F : Fn P w K mg base T j x n g) (h : j ≤ k) : Fn P w K mg base T k x n g := by
  obtain ⟨f, fd, ps, h1, h2, h3, h4, h5⟩ := F.ex
  exact ⟨f, fd, ps, h1, h2, h3, h4, h5.mono h⟩
theorem Fn.imp {P : Program} {w : World} {K : PySem.W.Frag} {mg : Str → Option Value} {base : Heap} {T : Tb} {k : Nat} {x : Str} {n : Nat} {g g' : List D → M D} (F : Fn P w K mg base T k x n g)
    (h : ∀ ds S, ds.length = n → g' ds S ≠ .no → g ds S = g' ds S) : Fn P w K mg base T k x n g' := by
  obtain ⟨f, fd, ps, h1, h2, h3, h4, h5⟩ := F.ex
  refine ⟨f, fd, ps, h1, h2, h3, h4, h5.imp fun vs H Q E ⟨ds, S, O, e, r, so, q⟩ => ⟨ds, S, O, e, r, so, ?_⟩⟩
  rw [h ds S e (fun z => by rw [z] at q; exact q)]
  exact q
section
variable {X : Cx} {T : Tb} {E : XKs} {k j : Nat}
def eCall (n : Nat) (g : List D → M D) (fs : BA) : BE := fun env => fs env >>= fun as => if as.length = n then g as else no
theorem de_call {x : Str} {n : Nat} {g : List D → M D} {e : Expr} {es : List Expr} {fs : BA} {p pos : Pos} (F : Fn X.prog X.w X.K X.mg X.base T j x n g) (c : Cok X E k) (ha : DA X T E (e :: es) fs) (hj : j ≤ k := by decide) (hg : Gl X x := by rfl)
    (hdb : (x == ("__debug__" : Str)) = false := by decide) (he : starEach (e :: es) X.env = (false, eval e X.env) :: starEach es X.env := by rfl) (hpl : (backTo pos (starEach es X.env)).any (·.1) = false := by rfl) : DE X T E (.Call (.Name x p) (e :: es) [] pos) (eCall n g fs) := by
  obtain ⟨f, fd, ps, h1, h2, h3, h4, h5⟩ := F.ex
  refine ⟨(pe_callS h5 (c.room.mono hj) hg h1 h2 h3 c.pass ha.pa hdb he hpl).monoZ fun σ H Q ⟨env, S, O, re, so, q⟩ => ⟨env, S, O, re, so, Po.bind q fun as S1 O1 H1 xs l s1 r1 q1 => ?_⟩⟩
  by_cases hl : as.length = n
  · rw [if_pos hl] at q1
    exact ⟨as, S1, O1, hl, r1, s1, q1⟩
  · rw [if_neg hl] at q1
    exact q1.elim
end
/-- the end of a def's body; tidy: a cell of its own is handed back as a list, its cells are forgotten -/
def endT (m : Nat) (d : D) : M D := fun S => match d with
  | .cell n => if n < m then .ok (.cell n) (S.take m) else (match S[n]? with
    | some (.lst ds) => if fixDs ds = true then .ok (.list ds) (S.take m) else .no
    | none => .no)
  | d => if fixD d = true then .ok d (S.take m) else .no
def endF (td : Bool) (m : Nat) (r : SR) : Res D := match r with
  | .next _ S => if td = true then .ok .none (S.take m) else .ok .none S
  | .ret d S => if td = true then endT m d S else .ok d S
  | .err c _ S => .err c S
  | _ => .no
def fnOf (td : Bool) (n : Nat) (b : BS) : List D → M D := fun ds S => endF td S.length (b (ds.map some ++ List.replicate (n - ds.length) Option.none) S)
section
variable {K : PySem.W.Frag} {mg : Str → Option Value} {T : Tb} {O O' : Ow} {H H' : Hp} {S S' : Store}
theorem renv_start {G : Hp} {Oc : List Addr} {N : List Str} {vs : List V} {ds : List D} (r : Rps K mg Oc G vs ds) (hn : ds.length ≤ N.length) : REnv K mg Oc G (L2.start N vs) (ds.map some ++ List.replicate (N.length - ds.length) none) :=
  ⟨by unfold L2.start; simp [r.length], fun i d e => by
    unfold L2.start
    by_cases hi : i < ds.length
    · rw [List.getElem?_append_left (by simpa using hi), List.getElem?_map] at e
      obtain ⟨d', h1, h2⟩ := Option.map_eq_some_iff.mp e
      cases h2
      obtain ⟨v, h3, h4⟩ := r.get h1
      exact ⟨v, by rw [List.getElem?_append_left (by rw [List.length_map, r.length]; exact hi), List.getElem?_map, h3]; rfl, h4⟩
    · rw [List.getElem?_append_right (by simpa using hi), List.getElem?_replicate] at e
      split at e <;> cases e⟩
/-- the cells behind the first ones are forgotten -/
def Ow.cut (O : Ow) (m : Nat) : Ow := ⟨O.cs.take m, O.pv⟩
theorem hide_cut {m : Nat} : Same (hide O H) (hide (O.cut m) H) := fun a o h => by
  obtain ⟨n, h, t⟩ := hide_le h
  exact hide_of (fun z => n (z.elim (fun z => .inl (List.mem_of_mem_take z)) .inr)) h t
theorem le_cut (so : SOk K mg T O H S) (l : Le O H O' H') : Le O H (O'.cut S.length) H' := by
  obtain ⟨r, e⟩ := l.pre
  refine ⟨⟨[], ?_⟩, l.pv, l.same.trans hide_cut, l.keep⟩
  show O'.cs.take S.length = O.cs ++ []
  rw [e, ← so.len]
  simp
theorem sok_cut (s0 : SOk K mg T O H S) (l : Le O H O' H') (so : SOk K mg T O' H' S') : SOk K mg T (O'.cut S.length) H' (S'.take S.length) := by
  refine ⟨?_, ?_, fun n a c e1 e2 => ?_, so.tabs, T.mono (le_cut s0 l).w s0.inv, fun p hp => ⟨fun z => (so.own p hp).1 (List.mem_of_mem_take z), (so.own p hp).2⟩⟩
  · show (O'.cs.take S.length).length = (S'.take S.length).length
    simp [so.len]
  · exact so.nd.sublist (List.take_sublist _ _)
  · have e1 : (O'.cs.take S.length)[n]? = some a := e1
    have hn : n < S.length := by
      have := (List.getElem?_eq_some_iff.mp e1).1
      simp at this
      omega
    rw [List.getElem?_take_of_lt hn] at e1 e2
    have := so.cell n a c e1 e2
    cases c with
    | lst ds =>
      obtain ⟨vs, z, t⟩ := this
      exact ⟨vs, z, Rps.mono (O := []) (O' := []) ⟨[], rfl⟩ hide_cut t⟩
theorem endT_ok {d : D} {v : V} {Q : VK} {Ex : XK} (so : SOk K mg T O H S) (l : Le O H O' H') (so' : SOk K mg T O' H' S') (r : Rp K mg O'.cs (hide O' H') v d) (q : Po K mg T (Rp K mg) (endT S.length d S') O H Q Ex) : Q v H' := by
  have fixed : ∀ {d : D}, Rp K mg O'.cs (hide O' H') v d → Po K mg T (Rp K mg) (if fixD d = true then .ok d (S'.take S.length) else .no) O H Q Ex → Q v H' := fun {d} r q => by
    split at q
    · rename_i hf
      exact q (O'.cut S.length) H' v (le_cut so l) (sok_cut so l so') (Rp.mono (O := (O'.cut S.length).cs) ⟨[], by simp⟩ hide_cut (r.fix hf))
    · exact q.elim
  cases r with
  | cell hO =>
    rename_i a n
    unfold endT at q
    dsimp only at q
    split at q
    · rename_i hn
      exact q (O'.cut S.length) H' _ (le_cut so l) (sok_cut so l so') (.cell (by show (O'.cs.take S.length)[n]? = some a; rw [List.getElem?_take_of_lt hn]; exact hO))
    · rename_i hn
      split at q
      · rename_i ds hds
        split at q
        · rename_i hf
          obtain ⟨vs, h1, h2⟩ := sok_cell so' hO hds
          refine q (O'.cut S.length) H' _ (le_cut so l) (sok_cut so l so') (.lst (hide_of ?_ h1) (Rps.mono (O := (O'.cut S.length).cs) ⟨[], by simp⟩ hide_cut (h2.fix hf)))
          rintro (z | z)
          · have z : a ∈ O'.cs.take S.length := z
            obtain ⟨i, hi, e⟩ := List.getElem_of_mem z
            simp at hi
            have e1 : O'.cs[i]? = some a := by
              rw [List.getElem_take] at e
              rw [List.getElem?_eq_getElem (by omega), e]
            obtain ⟨l1, q1⟩ := List.getElem?_eq_some_iff.mp e1
            obtain ⟨l2, q2⟩ := List.getElem?_eq_some_iff.mp hO
            have := (List.getElem_inj so'.nd).mp (q1.trans q2.symm)
            omega
          · exact so'.own_ne hO z
        · exact q.elim
      · exact q.elim
  | non => exact fixed .non q
  | bl b => exact fixed (.bl b) q
  | int b => exact fixed (.int b) q
  | str b => exact fixed (.str b) q
  | lst h t => exact fixed (.lst h t) q
  | tup h t => exact fixed (.tup h t) q
  | frz h t => exact fixed (.frz h t) q
  | fn h => exact fixed (.fn h) q
  | adr a => exact fixed (.adr a) q
end
theorem cok_def {P : Program} {w : World} {K : PySem.W.Frag} {mg : Str → Option Value} {base : Heap} {N ps : List Str} {qual : Str} {scope : Scope} {f : Addr} {cd : Value} {A : Around} {outer : List Env} {s : Shared} {H : Hp} {E : XK} {k : Nat} (S : FnScope N ps scope)
    (hr : Room k (A.deeper (envOfC qual scope s.heap.objs.size f cd))) : Cok (cxOf (L2N.CX P w) P w K mg base N qual scope f cd A outer s H E) (fun _ => E) k :=
  have tk : L2N.Takes (cxOf (L2N.CX P w) P w K mg base N qual scope f cd A outer s H E) (fun c d _ H => E c d H) := L2N.takes_of rfl rfl rfl rfl
  ⟨rfl, S.nd, fun σ => L2N.passAt tk σ, passes_of rfl, hr, tk⟩
/-- a def by its body, its promise -/
theorem fn_okd {P : Program} {w : World} {K : PySem.W.Frag} {mg : Str → Option Value} {base : Heap} {T : Tb} {k : Nat} {x : Str} {st : Stmt} {f : Addr} {fd : FuncData} {N ps : List Str} {g : List D → M D} {ι : Type} {td : Bool} {b : ι → BS}
    (F : L2.Fun K x x st f fd) (S : FnScope N ps (defScope st))
    (body : ∀ (i : ι) (cdv : Value) (A : Around) (outer : List Env) (s : Shared) (H : Hp) (E : XK), fd.code = cdv → Cok (cxOf (L2N.CX P w) P w K mg base N x (defScope st) f cdv A outer s H E) (fun _ => E) k → DSs (cxOf (L2N.CX P w) P w K mg base N x (defScope st) f cdv A outer s H E) T (fun _ => E) (defBody st) (b i))
    (hg : ∀ ds S0, ds.length = ps.length → g ds S0 ≠ .no → ∃ i, fnOf td N.length (b i) ds S0 = g ds S0) : FnOk P w K mg base (L2N.CX P w) (k + 1) f fd ps (spD K mg T ps.length g) := by
  obtain ⟨oc, od, kV, doc, pm, an, cdv, ct, osl, rfl, lk, hcd⟩ := F.ex
  refine fn_of lk hcd S (fun vs H Q E ⟨ds, S0, O, e, r, _, _⟩ => by rw [r.length, e]) fun A outer s H vs Q E hr ⟨ds, S0, O, e, r, so, q⟩ => ?_
  obtain ⟨i, ei⟩ := hg ds S0 e fun z => by rw [z] at q; exact q
  rw [← ei] at q
  have hpl : ps.length ≤ N.length := by have := congrArg List.length S.pre; rw [List.length_take] at this; omega
  refine ⟨_, (body i cdv A outer s H E rfl (cok_def S hr)).pss, ds.map some ++ List.replicate (N.length - ds.length) none, S0, O, renv_start r (by omega), so, ?_⟩
  have q : Po K mg T (Rp K mg) (endF td S0.length (b i (ds.map some ++ List.replicate (N.length - ds.length) none) S0)) O H Q E := q
  show PoS K mg T (b i (ds.map some ++ List.replicate (N.length - ds.length) none) S0) O H { nx := fun _ H' => Q .non H', rt := Q } (fun _ => E)
  cases eb : b i (ds.map some ++ List.replicate (N.length - ds.length) none) S0 with
  | next env S' =>
    rw [eb] at q
    intro O' H' σ' l so' re
    unfold endF at q
    dsimp only at q
    split at q
    · exact q (O'.cut S0.length) H' .non (le_cut so l) (sok_cut so l so') .non
    · exact q O' H' .non l so' .non
  | ret d S' =>
    rw [eb] at q
    intro O' H' v l so' rv
    unfold endF at q
    dsimp only at q
    split at q
    · exact endT_ok so l so' rv q
    · exact q O' H' v l so' rv
  | err c env S' =>
    rw [eb] at q
    exact fun O' H' σ' C l so' _ z => q O' H' C l so' z
  | brk env S' => rw [eb] at q; exact (show False from q).elim
  | cont env S' => rw [eb] at q; exact (show False from q).elim
  | no => rw [eb] at q; exact q

/-- a def by its body -/
theorem fn_def {P : Program} {w : World} {K : PySem.W.Frag} {mg : Str → Option Value} {base : Heap} {T : Tb} {k : Nat} {x : Str} {st : Stmt} {f : Addr} {fd : FuncData} {N ps : List Str} {g : List D → M D} {ι : Type} {td : Bool} {b : ι → BS}
    (F : L2.Fun K x x st f fd) (S : FnScope N ps (defScope st)) (hm : mg x = some (.ref f)) (hb : Binds K fd ps [])
    (body : ∀ (i : ι) (cdv : Value) (A : Around) (outer : List Env) (s : Shared) (H : Hp) (E : XK), fd.code = cdv → Cok (cxOf (L2N.CX P w) P w K mg base N x (defScope st) f cdv A outer s H E) (fun _ => E) k → DSs (cxOf (L2N.CX P w) P w K mg base N x (defScope st) f cdv A outer s H E) T (fun _ => E) (defBody st) (b i))
    (hg : ∀ ds S0, ds.length = ps.length → g ds S0 ≠ .no → ∃ i, fnOf td N.length (b i) ds S0 = g ds S0) : Fn P w K mg base T (k + 1) x ps.length g :=
  ⟨f, fd, ps, hm, F.kp, hb, rfl, fn_okd (b := b) (td := td) F S body hg⟩
/-! ### raise -/
structure Ex (K : PySem.W.Frag) (mg : Str → Option Value) (x : Str) : Prop where
  ex : ∃ C, mg x = some (.ref C) ∧ PySem.W.excIn K C [.type "ValueError", .type "Exception", .type "BaseException", .type "object"] "ValueError.__new__" = true ∧ PySem.W.keepIn K (.ref C) = true ∧
    PySem.W.subIn K (.ref C) (.type "BaseException") = some true ∧ PySem.W.typeIn K (.ref C) = some (.type "type")
section
variable {X : Cx} {T : Tb} {E : XKs} {k : Nat}
theorem ds_raise {x m : Str} {j : Nat} {p p2 pos rpos : Pos} (c : Cok X E k) (xe : Ex X.K X.mg x) (hg : Gl X x := by rfl) (hdb : (x == ("__debug__" : Str)) = false := by decide) : DS X T E (.Raise (some (.Call (.Name x p) [.Constant (.str m) j p2] [] pos)) none rpos) (sRaise x) := by
  obtain ⟨C, h1, h2, h3, h4, h5⟩ := xe.ex
  exact ⟨(L2N.ps_raise c.calm c.tk (L2N.pmk_own PySem.F.excBase_ValueError h2 h1 h3 (raises_own h4 h5) hg hdb)).monoZ fun Dn σ H ⟨env, S, O, re, so, q⟩ => q O H σ C Le.refl so re h1⟩

/-! ### lists that change -/
def cellAt (d : D) : M (Nat × List D) := fun S => match d with
  | .cell n => (match S[n]? with
    | some (.lst ds) => .ok (n, ds) S
    | none => .no)
  | _ => .no
def setCell (n : Nat) (ds : List D) (d : D) : M D := fun S => .ok d (S.set n (.lst ds))
def push (a y : D) : M D := cellAt a >>= fun p => if fixD y = true ∧ p.2.length < 1000000 then setCell p.1 (p.2 ++ [y]) .none else no
def isCell (d : D) : M Unit := match d with
  | .cell _ => pure ()
  | _ => no
def eApp (f g : BE) : BE := fun env => f env >>= fun a => isCell a >>= fun _ => g env >>= fun y => push a y
def popAt (a i : D) : M D := cellAt a >>= fun p => match i with
  | .int i => if p.2.length ≤ 1000000 then (match ixN p.2.length i with
    | some j => (match p.2[j]? with
      | some y => setCell p.1 (p.2.eraseIdx j) y
      | none => no)
    | none => no) else no
  | _ => no
def ePop (f g : BE) : BE := fun env => f env >>= fun a => isCell a >>= fun _ => g env >>= fun i => popAt a i
theorem cellAt_ok {K : PySem.W.Frag} {mg : Str → Option Value} {α β : Type} {R : List Addr → Hp → β → α → Prop} {a : D} {x : V} {S : Store} {O : Ow} {H : Hp} {f : Nat × List D → M α} {Q : β → Hp → Prop} {Ex : XK} (so : SOk K mg T O H S) (r : Rp K mg O.cs (hide O H) x a) (h : Po K mg T R ((cellAt a >>= f) S) O H Q Ex) :
    ∃ n p ds vs, x = .ref p ∧ O.cs[n]? = some p ∧ S[n]? = some (.lst ds) ∧ H p = some (.lst vs) ∧ Rps K mg [] (hide O H) vs ds ∧ Po K mg T R (f (n, ds) S) O H Q Ex := by
  rw [bd_ap] at h
  cases r with
  | cell hO =>
    rename_i p n
    unfold cellAt at h
    dsimp only at h
    cases e : S[n]? with
    | none => rw [e] at h; exact h.elim
    | some c =>
      cases c with
      | lst ds =>
        rw [e] at h
        obtain ⟨vs, h1, h2⟩ := so.cell n p _ hO e
        exact ⟨n, p, ds, vs, rfl, hO, e, h1, h2, h⟩
  | _ => exact h.elim
theorem rp_fix {K : PySem.W.Frag} {mg : Str → Option Value} {O : List Addr} {G : Hp} {v : V} {d : D} (r : Rp K mg [] G v d) : Rp K mg O G v d := Rp.mono (O := []) (O' := O) ⟨O, rfl⟩ (Same.refl _) r
theorem po_set {K : PySem.W.Frag} {mg : Str → Option Value} {S : Store} {O : Ow} {H : Hp} {n : Nat} {p : Addr} {us : List V} {ds : List D} {d : D} {v : V} {Q : VK} {Ex : XK} (so : SOk K mg T O H S) (hO : O.cs[n]? = some p) (t : Rps K mg [] (hide O H) us ds) (r : Rp K mg O.cs (hide O H) v d)
    (q : Po K mg T (Rp K mg) (setCell n ds d S) O H Q Ex) : Q v (upd H p (.lst us)) :=
  have l : Le O H O (upd H p (.lst us)) := Le.put (List.mem_of_getElem? hO) (so.own_ne hO)
  q O _ v l (so.put hO t) (r.le l)
theorem de_append {o e : Expr} {f g : BE} {apos cpos : Pos} (ho : DE X T E o f) (he : DE X T E e g) (hbase : attributeBase o "append" X.env (eval o X.env) = eval o X.env := by rfl)
    (hfew : ((backTo cpos (starEach [e] X.env)).all (fun x => !x.1) && (backToKw cpos (keywordEach [] X.env)).all (fun x => x.1.isSome) && decide ([e].length + ([] : List Keyword).length + (if ([] : List Keyword).isEmpty then 0 else 1) < 30)) = true := by rfl)
    (hline : (apos.endLine == cpos.line) = true := by rfl) (hs : starEach [e] X.env = (false, eval e X.env) :: starEach [] X.env := by rfl) (hplain : (backTo cpos (starEach [] X.env)).any (·.1) = false := by rfl) :
    DE X T E (.Call (.Attribute o "append" apos) [e] [] cpos) (eApp f g) :=
  ⟨(pe_bm PySem.F.plainAttrs_list PySem.F.slot_list_append PySem.F.type_list_append mt_append ho.pe (da_cons he da_nil hs).pa hbase hfew hline hs hplain).monoZ fun σ H Q ⟨env, S, O, re, so, q⟩ => ⟨env, S, O, re, so, by
    have q : Po X.K X.mg T (Rp X.K X.mg) ((f env >>= fun a => isCell a >>= fun _ => g env >>= fun y => push a y) S) O H Q (E σ) := q
    refine Po.bind q fun a S1 O1 H1 x l s1 r1 q1 => ?_
    cases r1 with
    | cell hO =>
      rename_i p n
      obtain ⟨vs, h⟩ := s1.at hO
      refine ⟨.inl ⟨rfl, vs, .inl (.inl h)⟩, env, S1, O1, re.mono l, s1, ?_⟩
      have q1 : Po X.K X.mg T (Rp X.K X.mg) ((g env >>= fun y => push (.cell n) y) S1) O1 H1 Q (E σ) := q1
      show Po X.K X.mg T (Rps X.K X.mg) ((g env >>= fun y => aNil env >>= fun ys => pure (y :: ys)) S1) O1 H1 _ _
      rw [bd_ap] at q1 ⊢
      cases eg : g env S1 with
      | no => rw [eg] at q1; exact q1
      | err z S2 => rw [eg] at q1; exact q1
      | ok y S2 =>
        rw [eg] at q1
        intro O2 H2 xs l2 s2 r2
        cases r2 with
        | cons ry rn =>
          cases rn
          have q1 : Po X.K X.mg T (Rp X.K X.mg) (push (.cell n) y S2) O1 H1 Q (E σ) := q1
          obtain ⟨n', p', ds, vs', e1, hO2, e2, h2, t2, q2⟩ := cellAt_ok s2 ((Rp.cell hO).le l2) (Po.le q1 l2)
          cases e1
          split at q2
          · rename_i hc
            refine ⟨p, vs', _, rfl, rfl, h2, by rw [t2.length]; exact Nat.lt_of_lt_of_le hc.2 (by decide), ?_⟩
            exact po_set s2 hO2 (t2.app (.cons (ry.fix hc.1) .nil)) .non q2
          · exact q2.elim
    | _ => exact q1.elim⟩⟩
theorem de_popAt {o e : Expr} {f g : BE} {apos cpos : Pos} (ho : DE X T E o f) (he : DE X T E e g) (hbase : attributeBase o "pop" X.env (eval o X.env) = eval o X.env := by rfl)
    (hfew : ((backTo cpos (starEach [e] X.env)).all (fun x => !x.1) && (backToKw cpos (keywordEach [] X.env)).all (fun x => x.1.isSome) && decide ([e].length + ([] : List Keyword).length + (if ([] : List Keyword).isEmpty then 0 else 1) < 30)) = true := by rfl)
    (hline : (apos.endLine == cpos.line) = true := by rfl) (hs : starEach [e] X.env = (false, eval e X.env) :: starEach [] X.env := by rfl) (hplain : (backTo cpos (starEach [] X.env)).any (·.1) = false := by rfl) :
    DE X T E (.Call (.Attribute o "pop" apos) [e] [] cpos) (ePop f g) :=
  ⟨(pe_bm PySem.F.plainAttrs_list PySem.F.slot_list_pop PySem.F.type_list_pop mt_popAt ho.pe (da_cons he da_nil hs).pa hbase hfew hline hs hplain).monoZ fun σ H Q ⟨env, S, O, re, so, q⟩ => ⟨env, S, O, re, so, by
    have q : Po X.K X.mg T (Rp X.K X.mg) ((f env >>= fun a => isCell a >>= fun _ => g env >>= fun y => popAt a y) S) O H Q (E σ) := q
    refine Po.bind q fun a S1 O1 H1 x l s1 r1 q1 => ?_
    cases r1 with
    | cell hO =>
      rename_i p n
      obtain ⟨vs, h⟩ := s1.at hO
      refine ⟨.inl ⟨rfl, vs, .inl (.inl h)⟩, env, S1, O1, re.mono l, s1, ?_⟩
      have q1 : Po X.K X.mg T (Rp X.K X.mg) ((g env >>= fun y => popAt (.cell n) y) S1) O1 H1 Q (E σ) := q1
      show Po X.K X.mg T (Rps X.K X.mg) ((g env >>= fun y => aNil env >>= fun ys => pure (y :: ys)) S1) O1 H1 _ _
      rw [bd_ap] at q1 ⊢
      cases eg : g env S1 with
      | no => rw [eg] at q1; exact q1
      | err z S2 => rw [eg] at q1; exact q1
      | ok y S2 =>
        rw [eg] at q1
        intro O2 H2 xs l2 s2 r2
        cases r2 with
        | cons ry rn =>
          cases rn
          have q1 : Po X.K X.mg T (Rp X.K X.mg) (popAt (.cell n) y S2) O1 H1 Q (E σ) := q1
          obtain ⟨n', p', ds, vs', e1, hO2, e2, h2, t2, q2⟩ := cellAt_ok s2 ((Rp.cell hO).le l2) (Po.le q1 l2)
          cases e1
          dsimp only at q2
          cases ry with
          | int i =>
            dsimp only at q2
            by_cases hz : ds.length ≤ 1000000
            · rw [if_pos hz] at q2
              cases hj : ixN ds.length i with
              | none => rw [hj] at q2; exact q2.elim
              | some j =>
                rw [hj] at q2
                dsimp only at q2
                cases hd : ds[j]? with
                | none => rw [hd] at q2; exact q2.elim
                | some d =>
                  rw [hd] at q2
                  obtain ⟨v, hv, rv⟩ := t2.get hd
                  obtain ⟨g1, g2, g3, g4⟩ := ixN_seq hj
                  refine ⟨p, vs', i, j, v, rfl, rfl, h2, by omega, by omega, by rw [t2.length]; exact g1, hv, ?_⟩
                  exact po_set s2 hO2 (t2.erase j) (rp_fix rv) q2
            · rw [if_neg hz] at q2
              exact q2.elim
          | _ => exact q2.elim
    | _ => exact q1.elim⟩⟩
end
end Z
end
section
set_option maxHeartbeats 4000000
/-! While an exception is handled: the ends of iterators, zip of two lists, a comprehension over it. -/
namespace Z
open PySem PySem.Spec PyProof.Rows L2

section
variable {prog : Program} {w : World} {A : Around} {E : Value → Shared → Prop} {s : Shared} {x1 : Addr}
/-- a StopIteration is made and raised -/
theorem stop_hot {α : Type} {Q : α → Shared → Prop} (hot : HotX.HotAt A x1 s.heap)
    (hE : ∀ h' e, (∀ b o, s.heap.get? b = some o → h'.get? b = some o) → (∃ o, h'.get? e = some o ∧ o.cls = .type "StopIteration") → E (.ref e) { s with heap := h' }) :
    wpAny (model prog w) A (newExc (.type "StopIteration") []) (fun e s' => wpAny (model prog w) A (raiseNew e : Sem α) Q E s') E s := by
  obtain ⟨hh, o1, vs1, h1, d1, c1⟩ := hot
  simp only [newExc, newTuple]
  refine wpAny_bind (wpAny_newObj_type ?_ (by size_fits))
  refine wpAny_bind (m := firstArgMember _ _) (wpAny_of_eq (a := Value.none) (by first | rfl | (simp only [firstArgMember]; rfl)) ?_)
  refine wpAny_newObj_type ?_ (by size_fits)
  have k1 : ∀ (u1 u2 : Obj) (b : Addr) (o : Obj), s.heap.get? b = some o → ((s.heap.push u1).push u2).get? b = some o := fun u1 u2 b o e => Heap.get?_push_of_some _ (Heap.get?_push_of_some _ e)
  refine HotX.raiseNew_hot ⟨hh, o1, vs1, k1 _ _ _ _ h1, d1, c1⟩ (Nat.ne_of_lt (Heap.lt_size (Heap.get?_push_of_some _ h1))) (Heap.get?_push_size _ rfl) rfl (by first | (simp; done) | (simp; omega) | (simp only [Array.size_append]; simp; omega)) ?_
  refine hE _ _ (fun b o e => ?_) ⟨_, Heap.get?_update_self _ (Heap.get?_push_size _ rfl) rfl, rfl⟩
  rw [Heap.get?_update_other _ _ (Nat.ne_of_gt (Heap.lt_size (Heap.get?_push_of_some _ e)))]
  exact k1 _ _ b o e
theorem HotAt.keep {h h' : Heap} (hot : HotX.HotAt A x1 h) (k : ∀ o, h.get? x1 = some o → h'.get? x1 = some o) : HotX.HotAt A x1 h' := by
  obtain ⟨hh, o1, vs1, h1, d1, c1⟩ := hot
  exact ⟨hh, o1, vs1, k _ h1, d1, c1⟩
/-- a tuple's iterator ends -/
theorem tup_end_hot {it t : Addr} {i : Nat} {items : Array Value} {Q : Option Value → Shared → Prop} (hot : HotX.HotAt A x1 s.heap) (hit : IsTupIter s.heap it t i) (ht : IsTup s.heap t items) (hx : items[i]? = none) (hne : x1 ≠ it)
    (hQ : ∀ h', (∀ b o, b ≠ it → s.heap.get? b = some o → h'.get? b = some o) → Q none { s with heap := h' }) : wpAny (model prog w) A (pyNext (.ref it)) Q E s := by
  obtain ⟨o, ho, hc, hd⟩ := id hit
  obtain ⟨ol, hol, _, nl, hdl⟩ := ht
  unfold pyNext
  refine wpAny_bind (wpAny_attempt (wpAny_callSpecial?_slot (name := Str.ofString "__next__") hit.typeIs slot_tupleiter_next (wpAny_call_entry slot_tupleiter_next hit.typeIs entry_tupleiter_next ?_ (args_tupleiter_next _))))
  show wpAny _ _ (field (.ref it) 0 >>= _) _ _ s
  refine wpAny_bind (wpAny_field ho hd (x := .ref t) rfl ?_)
  show wpAny _ _ (if (Value.ref t == Value.none) = true then _ else _) _ _ s
  rw [if_neg (show ¬ ((Value.ref t == Value.none) = true) from Bool.false_ne_true)]
  show wpAny _ _ (field (.ref it) 1 >>= _) _ _ s
  refine wpAny_bind (wpAny_field ho hd (x := .int i 0) rfl ?_)
  show wpAny _ _ (seqItems? (.ref t) >>= _) _ _ s
  refine wpAny_bind (wpAny_seqItems hol hdl ?_)
  simp only [Int.toNat_natCast, hx]
  refine wpAny_bind (wpAny_rule (wpAny_bind (wpAny_setField ho hd (by simp) ?_)))
  have k0 : ∀ b u, b ≠ it → s.heap.get? b = some u → (s.heap.update it (Obj.mapFields (·.setIfInBounds 0 .none))).get? b = some u := fun b u hb e => by
    rw [Heap.get?_update_other _ _ (Ne.symm hb)]
    exact e
  refine wpAny_bind (stop_hot (s := { s with heap := s.heap.update it (Obj.mapFields (·.setIfInBounds 0 .none)) }) (HotAt.keep hot fun o e => k0 _ _ hne e) fun h' e hk he => ?_)
  refine wpAny_bind (wpAny_isInstance (T := "StopIteration") (b := true) he isSubtype_stop ?_)
  exact wpAny_pure (hQ _ fun b u hb q => hk _ _ (k0 _ _ hb q))
/-- a list's iterator ends, within another iterator's __next__ -/
theorem list_end_hot {it l : Addr} {i : Nat} {items : Array Value} {Q : Value → Shared → Prop} (hot : HotX.HotAt A x1 s.heap) (hit : s.heap.IsListIter it l i) (hl : s.heap.IsList l items) (hx : items[i]? = none) (hne : x1 ≠ it)
    (hE : ∀ h' e, (∀ b o, b ≠ it → s.heap.get? b = some o → h'.get? b = some o) → (∃ o, h'.get? e = some o ∧ o.cls = .type "StopIteration") → E (.ref e) { s with heap := h' }) :
    wpAny (model prog w) A (Builtin.SmallTypes.nextOf (.ref it)) Q E s := by
  obtain ⟨o, ho, hc, hd⟩ := id hit
  obtain ⟨ol, hol, _, nl, hdl⟩ := hl
  unfold Builtin.SmallTypes.nextOf
  refine wpAny_bind (wpAny_callSpecial?_slot (name := Str.ofString "__next__") hit.typeIs slot_listiter_next (wpAny_call_entry slot_listiter_next hit.typeIs entry_listiter_next ?_ (args_listiter_next _)))
  show wpAny _ _ (field (.ref it) 0 >>= _) _ _ s
  refine wpAny_bind (wpAny_field ho hd (x := .ref l) rfl ?_)
  show wpAny _ _ (if (Value.ref l == Value.none) = true then _ else _) _ _ s
  rw [if_neg (show ¬ ((Value.ref l == Value.none) = true) from Bool.false_ne_true)]
  show wpAny _ _ (field (.ref it) 1 >>= _) _ _ s
  refine wpAny_bind (wpAny_field ho hd (x := .int i 0) rfl ?_)
  show wpAny _ _ (seqItems? (.ref l) >>= _) _ _ s
  refine wpAny_bind (wpAny_seqItems hol hdl ?_)
  simp only [Int.toNat_natCast, hx]
  refine wpAny_bind (wpAny_rule (wpAny_bind (wpAny_setField ho hd (by simp) ?_)))
  have k0 : ∀ b u, b ≠ it → s.heap.get? b = some u → (s.heap.update it (Obj.mapFields (·.setIfInBounds 0 .none))).get? b = some u := fun b u hb e => by
    rw [Heap.get?_update_other _ _ (Ne.symm hb)]
    exact e
  exact wpAny_bind (stop_hot (s := { s with heap := s.heap.update it (Obj.mapFields (·.setIfInBounds 0 .none)) }) (HotAt.keep hot fun o e => k0 _ _ hne e) fun h' e hk he => hE h' e (fun b u hb q => hk _ _ (k0 _ _ hb q)) he)
/-- zip of two lists ends, the former one first -/
theorem zip_end_hot {z TI TO i1 i2 l1 l2 : Addr} {k1 : Nat} {xs : Array Value} {Q : Option Value → Shared → Prop} (hot : HotX.HotAt A x1 s.heap) (D : ZipApart z TI TO i1 i2 l1 l2)
    (hz : IsZip s.heap z TI TO .none) (hTI : IsPair s.heap TI (.ref i1) (.ref i2)) (h1 : s.heap.IsListIter i1 l1 k1) (hl1 : s.heap.IsList l1 xs) (hend : xs[k1]? = none) (n1 : x1 ≠ z) (n2 : x1 ≠ i1)
    (hQ : ∀ h', (∀ c o, c ≠ z → c ≠ i1 → s.heap.get? c = some o → h'.get? c = some o) → Q none { s with heap := h' }) : wpAny (model prog w) A (pyNext (.ref z)) Q E s := by
  have hT : s.TypeIs (.ref z) "zip" := ⟨_, hz, rfl⟩
  unfold pyNext
  refine wpAny_bind (wpAny_attempt (wpAny_callSpecial?_slot (name := Str.ofString "__next__") hT F.slot_zip_next (wpAny_call_entry F.slot_zip_next hT F.entry_zip_next ?_ (F.args_zip_next_1 _))))
  show wpAny _ _ (field (.ref z) 2 >>= _) _ _ _
  refine wpAny_bind (wpAny_field hz rfl (x := .bool false) rfl ?_)
  show wpAny _ _ (field (.ref z) 3 >>= _) _ _ _
  refine wpAny_bind (wpAny_field hz rfl (x := .ref TI) rfl ?_)
  refine wpAny_bind (wpAny_seqItems hTI rfl ?_)
  show wpAny _ _ (Builtin.SmallTypes.ownedTupleIsFree (.ref z) >>= _) _ _ _
  refine wpAny_bind ?_
  unfold Builtin.SmallTypes.ownedTupleIsFree
  refine wpAny_bind (wpAny_field hz rfl (x := .none) rfl (wpAny_pure ?_))
  simp only [if_true]
  refine wpAny_bind (wpAny_rule ?_)
  refine wpAny_bind (wpAny_field hz rfl (x := .ref TO) rfl ?_)
  refine wpAny_bind (wpAny_setField_rec hz (by simp) fun h₁ hz₁ hs₁ => ?_)
  replace hz₁ : IsZip h₁ z TI TO .ellipsis := hz₁
  refine wpAny_bind ?_
  simp only [List.zipIdx_cons, List.zipIdx_nil, List.forIn_cons, List.forIn_nil]
  refine wpAny_bind (wpAny_bind (wpAny_onRaise ?_))
  show wpAny _ _ (Builtin.SmallTypes.nextOf (.ref i1) >>= _) _ _ _
  refine wpAny_bind (list_end_hot (HotAt.keep hot fun o e => (hs₁.2 _ n1).trans e) (h1.extBut hs₁.extBut D.i1z) (hl1.extBut hs₁.extBut D.l1z) hend n2 fun h₂ e hs₂ he => ?_)
  obtain ⟨oe, hoe, hce⟩ := he
  have hz₂ : IsZip h₂ z TI TO .ellipsis := hs₂ _ _ D.i1z.symm hz₁
  have hez : e ≠ z := fun x => by subst x; rw [hz₂] at hoe; cases hoe; simp at hce
  refine wpAny_setField_rec hz₂ (by simp) fun h₃ _ hs₃ => ?_
  refine wpAny_bind (wpAny_isInstance (T := "StopIteration") (b := true) ⟨oe, hs₃.extBut _ _ hez hoe, hce⟩ isSubtype_stop ?_)
  exact wpAny_pure (hQ _ fun c o c1 c3 q => hs₃.extBut _ _ c1 (hs₂ _ _ c3 (hs₁.extBut _ _ c1 q)))
end
end Z
end
section
set_option maxHeartbeats 4000000
namespace Z
open PySem PySem.Spec PyProof.Rows L2
section
variable {prog : Program} {w : World} {A : Around} {E : Value → Shared → Prop} {s : Shared} {x1 : Addr}
theorem unpack_hot {t : Addr} {items : Array Value} {targets : List (Bool × (Value → Sem Unit))} {Q : Unit → Shared → Prop} (hot : HotX.HotAt A x1 s.heap) (ht : IsTup s.heap t items) (hn : targets.length = items.size) (hstar : targets.findIdx? (·.1) = none)
    (h : ∀ h', (∀ b o, s.heap.get? b = some o → h'.get? b = some o) → wpAny (model prog w) A (assignInOrder (targets.map (·.2)) items.toList) Q E { s with heap := h' }) : wpAny (model prog w) A (unpack (.ref t) targets) Q E s := by
  have lt0 : ∀ {b : Addr} {o : Obj}, s.heap.get? b = some o → b ≠ s.heap.objs.size := fun e => Nat.ne_of_lt (Heap.lt_size e)
  have hlt : t ≠ s.heap.objs.size := by
    obtain ⟨o, ho, _⟩ := ht
    exact lt0 ho
  have hxl : x1 ≠ s.heap.objs.size := by
    obtain ⟨_, o1, _, h1, _⟩ := hot
    exact lt0 h1
  unfold unpack
  rw [hn, hstar]
  refine wpAny_bind (wpAny_holding ?_)
  unfold unpackItems
  refine wpAny_bind ?_
  unfold notIterableAtAll
  refine wpAny_bind (wpAny_specialOf ht.typeIs slot_tuple_iter.lookup ?_)
  refine wpAny_pure ?_
  simp only [Bool.false_eq_true, if_false]
  refine wpAny_bind (wpAny_holding (iter_tuple ht ?_))
  refine wpAny_bind (wpAny_holding (draw_tuple hlt items.size 0 _ _ ⟨_, Heap.get?_push_size _ rfl, rfl, rfl⟩ (ht.push _) (by omega) fun h₁ hit₁ hs₁ => ?_))
  have hall : List.take items.size (List.drop 0 items.toList) = items.toList := by
    rw [List.drop_zero]
    exact List.take_of_length_le (by simp)
  rw [hall, if_neg (by simp)]
  have k1 : ∀ b o, s.heap.get? b = some o → h₁.get? b = some o := fun b o e => hs₁.extBut b o (lt0 e) (Heap.get?_push_of_some _ e)
  have ht₁ : IsTup h₁ t items := (ht.push _).extBut hs₁.extBut hlt
  refine wpAny_bind (wpAny_holding (tup_end_hot (s := { s with heap := h₁ }) (HotAt.keep hot fun o e => k1 _ _ e) hit₁ ht₁ (by simp) hxl fun h₂ he₂ => ?_))
  simp only [Option.isSome_none, Bool.false_eq_true, if_false]
  exact wpAny_pure (h h₂ fun b o e => he₂ b o (lt0 e) (k1 b o e))
end
/-- the exception that is handled stands since the context's entry -/
def HotS (X : Cx) : Prop := ∃ (x1 : Addr) (o : Obj) (vs : Array Value), X.A.handled = some (.ref x1) ∧ X.s_0.heap.get? x1 = some o ∧ o.data = .fields vs ∧ vs[2]? = some .none ∧ X.H_0 x1 = none ∧ x1 ∉ X.fs ∧ x1 ∉ X.ex
theorem HotS.at {X : Cx} {pins : List (Addr × Obj)} {σ : L2.St} {H : Hp} {s : Shared} (h : HotS X) (I : Inv X pins σ H s) : ∃ x1, HotX.HotAt X.A x1 s.heap ∧ x1 ∉ X.ex := by
  obtain ⟨x1, o, vs, h1, h2, h3, h4, h5, h6, h7⟩ := h
  exact ⟨x1, ⟨h1, o, vs, I.base.keep x1 o h2 h5 h6 h7, h3, h4⟩, h7⟩
theorem pg_tup_hot {X : Cx} {es : List Expr} {k : Nat} {t : TGs} {n : Nat} {pos : Pos} (hh : HotS X) (h : PGs X es t) (hn : (assignEach es X.env).length = n := by rfl) (hst : (assignEach es X.env).findIdx? (·.1) = none := by rfl) : PG X (.Tuple es k pos) (gTup X.K n t) :=
  ⟨fun pins s σ H v u Q I r hw => by
    obtain ⟨a, xs, rfl, hq, hl, hw⟩ := hw
    cases r
    obtain ⟨its, rv, ht, hz⟩ := I.tuple hq
    obtain ⟨x1, hot, _⟩ := hh.at I
    rw [PyProof.Rows.assign_Tuple]
    refine wpAny_bind (wpAny_standAt (unpack_hot hot ht (by simp [hn, ← hl, rv.length]) hst fun h' hx => ?_))
    exact h.run pins _ σ H xs _ Q (I.kept (t' := s.toks) hx) (by simpa using rv) hw⟩
/-- where a def's body or a suite runs while an exception is handled -/
theorem hot_blk {X : Cx} {pins : List (Addr × Obj)} {σ : L2.St} {H : Hp} {s : Shared} (hc : L2H.HotC X) (I : Inv X pins σ H s) (scope : Scope) (env : Env) (fp : List Addr) (hf : ∀ b ∈ fp, FpOk X pins H b) : HotS (X.blk s H scope env fp) := by
  obtain ⟨p, ⟨h1, vs, h2, h3⟩, hp⟩ := hc
  obtain ⟨p1, p2, p3, p4, _⟩ := I.pin p (List.mem_append_left _ hp)
  refine ⟨p.1, p.2, vs, h1, p1, h2, h3, p2, fun z => ?_, fun z => ?_⟩
  · exact (List.mem_cons.mp (I.stkSub p.1 z)).elim p3 p4
  · obtain ⟨_, _, _, _, _, f5⟩ := hf p.1 z
    exact f5 p (List.mem_append_left _ hp) rfl
/-- [w for w, g in zip(a, b) if g]: the words whose truths are true -/
def pickD : List D → List Bool → List D
  | d :: ds, b :: bs => if b = true then d :: pickD ds bs else pickD ds bs
  | _, _ => []
section
variable {X : Cx} {e1 e2 : Expr} {f1 f2 : TE} {wn gn : Str} {i j : Nat} {scope : Scope} {p1 p2 p3 p4 p5 pos zp cp tp : Pos} {kk : Nat}
/-- what is asked of the two lists -/
def pickQ (Q : VK) : V → V → Hp → Prop := fun x y H2 => ∃ (a b : Addr) (ws : List V) (bs : List Bool), x = .ref a ∧ y = .ref b ∧ H2 a = some (.lst ws) ∧ H2 b = some (.lst (bs.map V.bl)) ∧ ws.length = bs.length ∧ ws.length ≤ 1000 ∧
  ∀ H' l, Same H2 H' → H2 l = none → H' l = some (.lst (((ws.zip bs).filter (·.2)).map (·.1))) → Q (.ref l) H'
def pickQs (Q : VK) : List V → Hp → Prop
  | [x, y], H => pickQ Q x y H
  | _, _ => False
/-- the new list holds the picked ones -/
def tPick (f1 f2 : TE) : TE := fun σ H Q => f1 σ H fun x H1 => f2 σ H1 fun y H2 => pickQ Q x y H2
theorem pick_take {ws : List V} {bs : List Bool} {n : Nat} {v : V} {b : Bool} (hv : ws[n]? = some v) (hb : bs[n]? = some b) :
    (((ws.zip bs).take (n + 1)).filter (·.2)).map (·.1) = (((ws.zip bs).take n).filter (·.2)).map (·.1) ++ if b = true then [v] else [] := by
  have hz : (ws.zip bs)[n]? = some (v, b) := by
    rw [List.getElem?_zip_eq_some]
    exact ⟨hv, hb⟩
  rw [List.take_add_one, hz]
  cases b <;> simp
theorem pick_run {pins : List (Addr × Obj)} {σ : L2.St} {H : Hp} {s : Shared} {Q : VK} {e : Expr} {a b z TI TO i1 i2 : Addr} {ws : List V} {bs : List Bool} (hc : L2H.HotC X) (hN : X.N.Nodup) (ok : BlkOk X.N X.env.scope scope [(wn, i), (gn, j)]) (hij : i ≠ j) (iw : X.N[i]? = some wn) (ig : X.N[j]? = some gn) (lw : scope.names.lookup wn = some .local) (lg : scope.names.lookup gn = some .local)
    (hd1 : (wn == ("__debug__" : Str)) = false) (hd2 : (gn == ("__debug__" : Str)) = false) (hd3 : (wn == ("__classdict__" : Str)) = false) (hd4 : (gn == ("__classdict__" : Str)) = false)
    (I : Inv X pins σ H s) (hf : ∀ c ∈ [z, TI, TO, i1, i2], FpOk X pins H c) (AP : ZipApart z TI TO i1 i2 a b)
    (st : IsZip s.heap z TI TO .none ∧ IsPair s.heap TI (.ref i1) (.ref i2) ∧ (∃ x y, IsPair s.heap TO x y) ∧ s.heap.IsListIter i1 a 0 ∧ s.heap.IsListIter i2 b 0) (ha : H a = some (.lst ws)) (hb : H b = some (.lst (bs.map V.bl))) (hlen : ws.length = bs.length) (hsm : ws.length ≤ 1000)
    (q : ∀ H' l, Same H H' → H l = none → H' l = some (.lst (((ws.zip bs).filter (·.2)).map (·.1))) → Q (.ref l) H') :
    wpAny (model X.prog X.w) X.A (newList []) (fun acc s₃ => wpAny (model X.prog X.w) X.A (newFunctionEnv scope X.env.globals (cloFrom X.env.cells scope.names []) [] X.env.qual none .none (some X.env)) (fun cenv s₄ =>
      codeAny (model X.prog X.w) X.A (.compStart (.ListComp (.Name wn p1) [⟨.Tuple [.Name wn p2, .Name gn p3] kk tp, e, [.Name gn p4], 0⟩] scope pos) 0 (.ref z) acc { cenv with scope := relabel scope X.env }) (compPost (model X.prog X.w) X.A X.xe none (EP X pins σ Q) acc cenv.locals) s₄) X.xe s₃) X.xe s := by
  refine wpAny_newObj_type (newEnv_comp ?_) (by show 0 ≤ sizeLine; decide)
  generalize hD : s.heap.objs.size = D
  have hDn : H D = none := I.hok.fresh (Nat.le_of_eq hD)
  generalize hs3 : ({ s with heap := s.heap.push { cls := .type "list", data := .seq ([] : List Value).toArray } } : Shared) = s3
  have h3 : s3.heap = s.heap.push { cls := .type "list", data := .seq ([] : List Value).toArray } := by rw [← hs3]
  have I3 : Inv X pins σ (upd H D (.lst [])) s3 := by
    rw [← hs3]
    refine I.laid (t' := s.toks) (fun b o e => Heap.get?_push_of_some _ e) (Nat.le_of_eq hD) ⟨Nat.zero_le _, [], 0, .nil, ?_⟩
    rw [← hD]
    exact Heap.get?_push_size _ rfl
  have inFp : ∀ c, c ∈ [z, TI, TO, i1, i2] → ∃ o, s.heap.get? c = some o ∧ ∀ v, o.data ≠ .cell v := fun c hcm => by
    obtain ⟨hz, hTI, ⟨x, y, hTO⟩, ⟨o1, e1, _, d1⟩, ⟨o2, e2, _, d2⟩⟩ := st
    simp only [List.mem_cons, List.not_mem_nil, or_false] at hcm
    rcases hcm with r | r | r | r | r
    · rw [r]; exact ⟨_, hz, fun v q => nomatch q⟩
    · rw [r]; exact ⟨_, hTI, fun v q => nomatch q⟩
    · rw [r]; exact ⟨_, hTO, fun v q => nomatch q⟩
    · rw [r]; exact ⟨o1, e1, fun v q => by rw [d1] at q; cases q⟩
    · rw [r]; exact ⟨o2, e2, fun v q => by rw [d2] at q; cases q⟩
  have f3 : ∀ c ∈ [z, TI, TO, i1, i2], FpOk X pins (upd H D (.lst [])) c ∧ c < s3.heap.objs.size := fun c hcm => by
    obtain ⟨o, e, _⟩ := inFp c hcm
    have hlt : c < D := by rw [← hD]; exact Heap.lt_size e
    refine ⟨⟨?_, (hf c hcm).2⟩, by rw [h3, Heap.size_push, hD]; exact Nat.lt_succ_of_lt hlt⟩
    rw [upd_ne (Nat.ne_of_lt hlt)]
    exact (hf c hcm).1
  have I4 := block_start I3 ok hN f3
  have hot := hot_blk hc I3 scope (compEnvC scope (cellsFrom (s3.heap.objs.size + 1) scope.names (cloFrom X.env.cells scope.names [])) s3.heap.objs.size X.env) [z, TI, TO, i1, i2] fun c hcm => (f3 c hcm).1
  show codeAny _ _ (.compStart _ 0 (.ref z) (.ref D) (compEnvC scope (cellsFrom (s3.heap.objs.size + 1) scope.names (cloFrom X.env.cells scope.names [])) s3.heap.objs.size X.env)) (compPost (model X.prog X.w) X.A X.xe none (EP X pins σ Q) (.ref D) s3.heap.objs.size) { s3 with heap := pushCells (s3.heap.push { cls := .type "dict", data := .dict #[] }) scope.names }
  have scE : (compEnvC scope (cellsFrom (s3.heap.objs.size + 1) scope.names (cloFrom X.env.cells scope.names [])) s3.heap.objs.size X.env).scope = relS scope X.env.scope := rfl
  generalize hce : compEnvC scope (cellsFrom (s3.heap.objs.size + 1) scope.names (cloFrom X.env.cells scope.names [])) s3.heap.objs.size X.env = ce at I4 hot scE ⊢
  have cL : ce.locals = s3.heap.objs.size := by subst hce; rfl
  have vw : ce.scope.names.lookup wn = some .local := by rw [scE]; exact lookup_relS_keep (by decide) lw
  have vg : ce.scope.names.lookup gn = some .local := by rw [scE]; exact lookup_relS_keep (by decide) lg
  have up3 : ∀ b o, s.heap.get? b = some o → s3.heap.get? b = some o := fun b o e => by rw [h3]; exact Heap.get?_push_of_some _ e
  generalize hs4 : ({ s3 with heap := pushCells (s3.heap.push { cls := .type "dict", data := .dict #[] }) scope.names } : Shared) = s4 at I4 ⊢
  have up4 : ∀ b o, s.heap.get? b = some o → s4.heap.get? b = some o := fun b o e => by rw [← hs4]; exact pushCells_keeps _ _ _ _ (Heap.get?_push_of_some _ (up3 b o e))
  let Z' : Nat → Heap → Prop := fun n h => IsZip h z TI TO .none ∧ IsPair h TI (.ref i1) (.ref i2) ∧ (∃ x y, IsPair h TO x y) ∧ h.IsListIter i1 a n ∧ h.IsListIter i2 b n
  have keepZ : ∀ {n : Nat} {h h' : Heap}, Z' n h → (∀ c ∈ [z, TI, TO, i1, i2], ∀ o, h.get? c = some o → h'.get? c = some o) → Z' n h' := fun {n h h'} ⟨a1, a2, ⟨x, y, a3⟩, a4, a5⟩ k =>
    ⟨k z (by simp) _ a1, k TI (by simp) _ a2, ⟨x, y, k TO (by simp) _ a3⟩, a4.at fun o q => k i1 (by simp) o q, a5.at fun o q => k i2 (by simp) o q⟩
  have st4 : Z' 0 s4.heap := keepZ st fun c _ o e => up4 c o e
  generalize hH3 : upd H D (.lst []) = H3 at I3 I4 hot f3
  have haD : H3 a = some (.lst ws) := by rw [← hH3, upd_ne (ne_of_none ha hDn)]; exact ha
  have hbD : H3 b = some (.lst (bs.map V.bl)) := by rw [← hH3, upd_ne (ne_of_none hb hDn)]; exact hb
  have stat : ∀ {σ' : L2.St} {H' : Hp} {s' : Shared}, Inv (X.blk s3 H3 scope ce [z, TI, TO, i1, i2]) [] σ' H' s' → (∀ c ∈ [z, TI, TO, i1, i2], H' c = none) → ∀ c ∈ [z, TI, TO, i1, i2], FpOk (X.blk s3 H3 scope ce [z, TI, TO, i1, i2]) [] H' c := fun {σ' H' s'} I' hn c hcm =>
    ⟨hn c hcm, (I'.ok.exf c hcm).1, I'.ok.exfs c hcm, .inl hcm, fun x u e => (I'.ok.exf c hcm).2 x u e, fun p hp => absurd (show p ∈ ([] : List (Addr × Obj)) ++ [] from hp) (by simp)⟩
  have loop : codeAny (model X.prog X.w) X.A (.compLoop (.ListComp (.Name wn p1) [⟨.Tuple [.Name wn p2, .Name gn p3] kk tp, e, [.Name gn p4], 0⟩] scope pos) 0 (.ref z) (.ref D) ce) (compPost (model X.prog X.w) X.A X.xe none (EP X pins σ Q) (.ref D) s3.heap.objs.size) s4 := by
    refine compLoop_any (fun n s' => ∃ m H', n = ws.length - m ∧ m ≤ ws.length ∧ Inv (X.blk s3 H3 scope ce [z, TI, TO, i1, i2]) [] (L2.wipe σ [i, j]) H' s' ∧ Z' m s'.heap ∧ (∀ c ∈ [z, TI, TO, i1, i2], H' c = none) ∧ (∀ c o, H c = some o → H' c = some o) ∧ H' D = some (.lst ((((ws.zip bs).take m).filter (·.2)).map (·.1))))
      ?_ ws.length ⟨0, H3, by simp, Nat.zero_le _, I4, st4, fun c hcm => (f3 c hcm).1.1, fun c o e => by rw [← hH3, upd_ne (ne_of_none e hDn)]; exact e, by rw [← hH3]; exact upd_same⟩
    rintro n s5 ⟨m, H5, rfl, hm, I5, st5, n5, k5, hD5⟩
    have ha5 := k5 _ _ ha
    have hb5 := k5 _ _ hb
    obtain ⟨its, rv, pl1, _⟩ := I5.list (SqL.of (K := X.K) ha5)
    obtain ⟨its2, rv2, pl2, _⟩ := I5.list (SqL.of (K := X.K) hb5)
    obtain ⟨hz, hTI, ⟨x0, y0, hTO⟩, h1, h2⟩ := id st5
    by_cases hlt : m < ws.length
    · have hx : ws[m]? = some ws[m] := List.getElem?_eq_getElem hlt
      have hy : bs[m]? = some bs[m] := List.getElem?_eq_getElem (by omega)
      obtain ⟨u, hu, ru⟩ := rv.get hx
      obtain ⟨u2, hu2, ru2⟩ := rv2.get (show (bs.map V.bl)[m]? = some (.bl bs[m]) by rw [List.getElem?_map, hy]; rfl)
      refine wpAny_pyNext_zip_item AP hz hTI hTO h1 h2 pl1.isList pl2.isList (x := u) (y := u2) (by simpa using hu) (by simpa using hu2) fun h' z' TO' h1' h2' hT hsz hk => ?_
      refine wpAny_letOwnedTupleGo_zip (s := { s5 with heap := h' }) z' fun h'' z'' sb => ?_
      have hzl : z < s5.heap.objs.size := Heap.lt_size hz
      have hT2 : h''.get? s5.heap.objs.size = some { cls := .type "tuple", data := .seq #[u, u2] } := (sb.2 _ (Nat.ne_of_gt hzl)).trans hT
      have I6 : Inv (X.blk s3 H3 scope ce [z, TI, TO, i1, i2]) [] (L2.wipe σ [i, j]) (upd H5 s5.heap.objs.size (.tup [ws[m], .bl bs[m]])) { s5 with heap := h'' } :=
        I5.turnedNew (t' := s5.toks) (ch := [z, TI, TO, i1, i2]) (fun c o hb q => (sb.2 c (fun q' => hb (by simp [q']))).trans (hk c o (fun q' => hb (by simp [q'])) (fun q' => hb (by simp [q'])) (fun q' => hb (by simp [q'])) (fun q' => hb (by simp [q'])) q)) (stat I5 n5) (Nat.le_refl _)
          ⟨by show 2 ≤ sizeLine; decide, [u, u2], .cons ru (.cons ru2 .nil), ⟨_, hT2, rfl, _, rfl⟩⟩
      have newN : H5 s5.heap.objs.size = none := I5.hok.fresh (Nat.le_refl _)
      have st6 : Z' (m + 1) h'' := ⟨z'', (sb.2 _ AP.TIz).trans (hk _ _ AP.TIz AP.TITO AP.TIi1 AP.TIi2 hTI), ⟨u, u2, (sb.2 _ AP.TOz).trans TO'⟩, h1'.at fun o q => (sb.2 _ AP.i1z).trans q, h2'.at fun o q => (sb.2 _ AP.i2z).trans q⟩
      have n6 : ∀ c ∈ [z, TI, TO, i1, i2], (upd H5 s5.heap.objs.size (.tup [ws[m], .bl bs[m]])) c = none := fun c hcm => by
        have hlt : c < s5.heap.objs.size := by
          simp only [List.mem_cons, List.not_mem_nil, or_false] at hcm
          rcases hcm with r | r | r | r | r
          · rw [r]; exact hzl
          · rw [r]; exact Heap.lt_size hTI
          · rw [r]; exact Heap.lt_size hTO
          · rw [r]; obtain ⟨_, e1, _⟩ := h1; exact Heap.lt_size e1
          · rw [r]; obtain ⟨_, e2, _⟩ := h2; exact Heap.lt_size e2
        rw [upd_ne (Nat.ne_of_lt hlt)]
        exact n5 c hcm
      have obj6 : ∀ c ∈ [z, TI, TO, i1, i2], ∃ o, h''.get? c = some o ∧ ∀ v, o.data ≠ .cell v := fun c hcm => by
        obtain ⟨a1, a2, ⟨x, y, a3⟩, ⟨o1, e1, _, d1⟩, ⟨o2, e2, _, d2⟩⟩ := st6
        simp only [List.mem_cons, List.not_mem_nil, or_false] at hcm
        rcases hcm with r | r | r | r | r
        · rw [r]; exact ⟨_, a1, fun v q => nomatch q⟩
        · rw [r]; exact ⟨_, a2, fun v q => nomatch q⟩
        · rw [r]; exact ⟨_, a3, fun v q => nomatch q⟩
        · rw [r]; exact ⟨o1, e1, fun v q => by rw [d1] at q; cases q⟩
        · rw [r]; exact ⟨o2, e2, fun v q => by rw [d2] at q; cases q⟩
      have I6' := I6.pinned (stat I6 n6) obj6
      have pgT : PG (X.blk s3 H3 scope ce [z, TI, TO, i1, i2]) (.Tuple [.Name wn p2, .Name gn p3] kk tp) (gTup X.K 2 (gCons (gName i) (gCons (gName j) gNil))) :=
        pg_tup_hot hot (pgs_cons (pg_name hN iw (.inl vw) (.inr vw)) (pgs_cons (pg_name hN ig (.inl vg) (.inr vg)) pgs_nil))
      refine thnF (pgT.run _ _ _ _ (.ref s5.heap.objs.size) _ (fun σ8 H8 => σ8 = ((L2.wipe σ [i, j]).set i (some ws[m])).set j (some (.bl bs[m])) ∧ H8 = upd H5 s5.heap.objs.size (.tup [ws[m], .bl bs[m]])) I6' rfl ⟨_, _, rfl, .inl (.inl upd_same), rfl, _, _, rfl, _, _, rfl, rfl, rfl, rfl⟩) fun _ s8 ⟨σ8, H8, I8, e8, e8'⟩ => ?_
      subst e8 e8'
      have li : i < (L2.wipe σ [i, j]).length := by rw [wipe_length, I.len]; exact (List.getElem?_eq_some_iff.mp iw).1
      have lj : j < (L2.wipe σ [i, j]).length := by rw [wipe_length, I.len]; exact (List.getElem?_eq_some_iff.mp ig).1
      have gi : (((L2.wipe σ [i, j]).set i (some ws[m])).set j (some (.bl bs[m])))[i]? = some (some ws[m]) := by rw [List.getElem?_set_ne (Ne.symm hij), List.getElem?_set_self li]
      have gj : (((L2.wipe σ [i, j]).set i (some ws[m])).set j (some (.bl bs[m])))[j]? = some (some (.bl bs[m])) := by rw [List.getElem?_set_self (by simpa using lj)]
      have pt : PTs (X.blk s3 H3 scope ce [z, TI, TO, i1, i2]) [.Name gn p4] (tB (tVar j)) := pts_one (pt_val (pe_var ig (.inl vg) hd2 hd4))
      refine thnF (pt.run _ s8 _ _ (fun b9 H9 => b9 = bs[m] ∧ H9 = upd H5 s5.heap.objs.size (.tup [ws[m], .bl bs[m]])) I8 ⟨_, gj, _, rfl, rfl, rfl⟩) fun b9 s9 ⟨H9, I9, e9, e9'⟩ => ?_
      subst e9 e9'
      have fin : ∀ {s' : Shared} {H' : Hp}, Inv (X.blk s3 H3 scope ce [z, TI, TO, i1, i2]) ([] ++ pinsAt [z, TI, TO, i1, i2] h'') (((L2.wipe σ [i, j]).set i (some ws[m])).set j (some (.bl bs[m]))) H' s' → (∀ c o, H c = some o → H' c = some o) → H' D = some (.lst ((((ws.zip bs).take (m + 1)).filter (·.2)).map (·.1))) →
          ∃ n, n < ws.length - m ∧ ∃ m H', n = ws.length - m ∧ m ≤ ws.length ∧ Inv (X.blk s3 H3 scope ce [z, TI, TO, i1, i2]) [] (L2.wipe σ [i, j]) H' s' ∧ Z' m s'.heap ∧ (∀ c ∈ [z, TI, TO, i1, i2], H' c = none) ∧ (∀ c o, H c = some o → H' c = some o) ∧ H' D = some (.lst ((((ws.zip bs).take m).filter (·.2)).map (·.1))) := fun {s' H'} I' k' hD' => by
        have pin' : ∀ c ∈ [z, TI, TO, i1, i2], ∀ o, h''.get? c = some o → s'.heap.get? c = some o ∧ H' c = none := fun c hcm o e =>
          let zz := I'.pin (c, o) (List.mem_append_right _ (List.mem_append_right _ (mem_pinsAt hcm e)))
          ⟨zz.1, zz.2.1⟩
        refine ⟨ws.length - (m + 1), by omega, m + 1, H', rfl, hlt, (I'.unpinned (pins := [])).weak (by simp) (fun n v e => ?_), keepZ st6 fun c hcm o e => (pin' c hcm o e).1, fun c hcm => ?_, k', hD'⟩
        · have hn := (wipe_some e).2
          simp only [List.mem_cons, List.not_mem_nil, or_false, not_or] at hn
          rw [List.getElem?_set_ne (Ne.symm hn.2), List.getElem?_set_ne (Ne.symm hn.1)]
          exact e
        · obtain ⟨o, e, _⟩ := obj6 c hcm
          exact (pin' c hcm o e).2
      have k6 : ∀ c o, H c = some o → (upd H5 s5.heap.objs.size (.tup [ws[m], .bl bs[m]])) c = some o := fun c o e => by
        have := k5 c o e
        rw [upd_ne (ne_of_none this newN)]
        exact this
      have hD6 : (upd H5 s5.heap.objs.size (.tup [ws[m], .bl bs[m]])) D = some (.lst ((((ws.zip bs).take m).filter (·.2)).map (·.1))) := by
        rw [upd_ne (ne_of_none hD5 newN)]
        exact hD5
      have hp := pick_take hx hy
      cases hbm : bs[m] with
      | false =>
        rw [hbm] at I9 hp k6 hD6
        simp only [Bool.false_eq_true, if_false, List.append_nil] at hp ⊢
        rw [← hbm] at I9 k6 hD6
        exact fin I9 k6 (by rw [hp]; exact hD6)
      | true =>
        rw [hbm] at hp
        simp only [if_true] at hp ⊢
        have pe : PE (X.blk s3 H3 scope ce [z, TI, TO, i1, i2]) (.Name wn p1) (tVar i) := pe_var iw (.inl vw) hd1 hd3
        refine thnF (pe.run _ s9 _ _ (fun v H10 => v = ws[m] ∧ H10 = upd H5 s5.heap.objs.size (.tup [ws[m], .bl bs[m]])) I9 ⟨_, gi, rfl, rfl⟩) fun zv s10 ⟨yv, H10, I10, r10, e10, e10'⟩ => ?_
        subst e10 e10'
        have hshort : ((((ws.zip bs).take m).filter (·.2)).map (·.1)).length ≤ ws.length := by
          rw [List.length_map]
          refine Nat.le_trans (List.length_filter_le _ _) ?_
          rw [List.length_take, List.length_zip]
          omega
        refine app_ok (X := X.blk s3 H3 scope ce [z, TI, TO, i1, i2]) I10 hD6 (Nat.lt_of_le_of_lt (Nat.le_trans hshort hsm) (by decide)) r10 fun s11 I11 => fin I11 (fun c o e => ?_) ?_
        · rw [upd_ne (ne_of_none e hDn)]
          exact k6 c o e
        · rw [hp]
          exact upd_same
    · have em : m = ws.length := by omega
      subst em
      obtain ⟨x1, ht, nx⟩ := hot.at I5
      refine zip_end_hot ht AP hz hTI h1 pl1.isList (by have := rv.length; simp; omega) (fun e => nx (by rw [e]; simp [Cx.blk])) (fun e => nx (by rw [e]; simp [Cx.blk])) fun h' hk => ?_
      have I6 : Inv (X.blk s3 H3 scope ce [z, TI, TO, i1, i2]) [] (L2.wipe σ [i, j]) H5 { s5 with heap := h' } :=
        I5.turnedL (t' := s5.toks) (ch := [z, TI, TO, i1, i2]) (fun c o hb q => hk c o (fun q' => hb (by simp [q'])) (fun q' => hb (by simp [q'])) q) (stat I5 n5)
      have I7 : Inv X pins σ H5 { s5 with heap := h' } := I3.call' (ch := [z, TI, TO, i1, i2]) I6.os I6.base I6.hok I6.bare fun c hcm => ⟨(f3 c hcm).1.2.2.2.1, (f3 c hcm).1.2.1, (f3 c hcm).1.2.2.2.2.1, (f3 c hcm).1.2.2.2.2.2⟩
      have nC : H5 s3.heap.objs.size = none := by
        have z : H5 ce.locals = none := I6.free
        rw [cL] at z
        exact z
      obtain ⟨mm, hn, _⟩ := I6.loc
      have hn : h'.Ns ce.locals mm := hn
      rw [cL] at hn
      obtain ⟨f0, f1, f2, f3', f4, f5⟩ := I3.fpOk (Nat.le_refl _) nC
      refine ⟨mm, hn, fun h'' sb => ⟨.ref D, H5, I7.turned (t' := s5.toks) (fun c o hc q => (sb.2 c hc).trans q) f0 f1 f3' f4 f5, rfl, ?_⟩⟩
      rw [List.take_of_length_le (by rw [List.length_zip]; omega)] at hD5
      exact q H5 D k5 hDn hD5
  exact codeAny_compStart_list loop (wpAny_pyIter_zip st4.1 loop)
theorem pe_pick (hc : L2H.HotC X) (hN : X.N.Nodup) (h1 : PE X e1 f1) (h2 : PE X e2 f2) (ok : BlkOk X.N X.env.scope scope [(wn, i), (gn, j)]) (hij : i ≠ j) (hmz : X.mg "zip" = none)
    (iw : X.N[i]? = some wn) (ig : X.N[j]? = some gn) (lw : scope.names.lookup wn = some .local) (lg : scope.names.lookup gn = some .local)
    (hgz : Gl X "zip" := by rfl) (hs : starEach [e1, e2] X.env = (false, eval e1 X.env) :: starEach [e2] X.env := by rfl) (hpl : (backTo cp (starEach [e2] X.env)).any (·.1) = false := by rfl) (hs2 : starEach [e2] X.env = [(false, eval e2 X.env)] := by rfl)
    (hfs : ∀ x, foldedSetIterable (.Call (.Name "zip" zp) [e1, e2] [] cp) X.env x = pure x := by intro _; rfl) (hd1 : (wn == ("__debug__" : Str)) = false := by decide) (hd2 : (gn == ("__debug__" : Str)) = false := by decide) (hd3 : (wn == ("__classdict__" : Str)) = false := by decide) (hd4 : (gn == ("__classdict__" : Str)) = false := by decide) :
    PE X (.ListComp (.Name wn p1) [⟨.Tuple [.Name wn p2, .Name gn p3] kk tp, .Call (.Name "zip" zp) [e1, e2] [] cp, [.Name gn p4], 0⟩] scope pos) (tPick f1 f2) := by
  refine ⟨fun pins s σ H Q I h => ?_⟩
  rw [eval_ListComp]
  have hfree : ∀ y ∈ scope.names, y.2 = .free → ∃ c, X.env.cells.lookup y.1 = some c := fun y hy e => (ok.free y hy e).elim (fun k => I.ok.has _ (.inl k)) (fun k => I.ok.has _ (.inr k))
  have hA : PA X [e1, e2] (tCons f1 (tCons f2 tNil)) := pa_cons h1 (pa_cons h2 pa_nil (by rw [hs2]; rfl)) hs
  refine wpAny_comprehension_free (use := none) rfl hfs (closure_ok hfree) ok.kind (fun y hy e => by rw [ok.uniq y hy, e])
    (Call_ (ld_blt I hgz hmz PyProof.Rows.boot_zip (PyProof.Rows.callWith_type1 (thn (hA.run cp pins s σ H (pickQs Q) I h) fun us s1 ⟨vs, H1, I1, r1, q1⟩ => ?_) hs hpl)))
  cases r1 with
  | nil => exact q1.elim
  | cons ra r1 =>
  cases r1 with
  | nil => exact q1.elim
  | cons rb r1 =>
  cases r1 with
  | cons _ _ => exact q1.elim
  | nil =>
  obtain ⟨a, b, ws, bs, ea, eb, ha, hb, hlen, hsm, q⟩ := q1
  subst ea eb
  cases ra
  cases rb
  obtain ⟨its, rv, pl1, _⟩ := I1.list (SqL.of (K := X.K) ha)
  obtain ⟨its2, rv2, pl2, _⟩ := I1.list (SqL.of (K := X.K) hb)
  have la : a < s1.heap.objs.size := pl1.lt
  have lb : b < s1.heap.objs.size := pl2.lt
  refine call_zip_2 pl1.isList pl2.isList fun h' hz hTI hTO hi1 hi2 hsz hk => wpAny_pyIter_zip hz ?_
  have I2 : Inv X pins σ H1 { s1 with heap := h' } := I1.kept (t' := s1.toks) hk
  have AP := PySem.W.ktu_apart s1.heap.objs.size a b la lb
  have f2 : ∀ c ∈ [s1.heap.objs.size + 4, s1.heap.objs.size + 2, s1.heap.objs.size + 3, s1.heap.objs.size, s1.heap.objs.size + 1], FpOk X pins H1 c := fun c hm => by
    have hle : s1.heap.objs.size ≤ c := by
      simp only [List.mem_cons, List.not_mem_nil, or_false] at hm
      rcases hm with z | z | z | z | z <;> rw [z] <;> first | exact Nat.le_add_right _ _ | exact Nat.le_refl _
    exact I1.fpOk hle (I1.hok.fresh hle)
  exact pick_run hc hN ok hij iw ig lw lg hd1 hd2 hd3 hd4 I2 f2 AP ⟨hz, hTI, ⟨_, _, hTO⟩, hi1, hi2⟩ ha hb hlen hsm q
end
end Z
end
section
set_option maxHeartbeats 4000000
/-! Texts split and joined; errors that are caught; a def called while one is handled. -/
namespace Z
open PySem PySem.Spec PyProof.Rows L2

section
variable {K : PySem.W.Frag} {mg : Str → Option Value} {T : Tb} {O : Ow} {H H' : Hp} {S : Store}
theorem SOk.same (s : SOk K mg T O H S) (e : Same H H') : SOk K mg T O H' S := by
  refine ⟨s.len, s.nd, fun n a c e1 e2 => ?_, s.tabs.ext e, T.mono (Le.same' e).w s.inv, fun q hq => ?_⟩
  · have := s.cell n a c e1 e2
    cases c with
    | lst ds =>
      obtain ⟨vs, z, t⟩ := this
      exact ⟨vs, e _ _ z, Rps.le0 t (Le.same' e)⟩
  · obtain ⟨h1, vs, h2⟩ := s.own q hq
    exact ⟨h1, vs, e _ _ h2⟩
def strD : List D → Option (List Str)
  | [] => some []
  | .str b :: xs => (strD xs).map (b :: ·)
  | _ => none
theorem strD_rp {O : List Addr} {G : Hp} : ∀ {ds : List D} {vs : List V} {bs : List Str}, Rps K mg O G vs ds → strD ds = some bs → vs = bs.map V.str
  | _, _, _, .nil, e => by cases e; rfl
  | _, _, _, .cons (d := d) r t, e => by
    cases r with
    | str b =>
      rw [strD] at e
      obtain ⟨bs', h, rfl⟩ := Option.map_eq_some_iff.mp e
      rw [strD_rp t h]
      rfl
    | _ => simp [strD] at e
theorem rps_str {O : List Addr} {G : Hp} : ∀ ys : List Str, Rps K mg O G (ys.map V.str) (ys.map D.str)
  | [] => .nil
  | y :: ys => .cons (.str y) (rps_str ys)
def isStr : D → M Str
  | .str s => pure s
  | _ => no
theorem po_isStr {α β : Type} {R : List Addr → Hp → β → α → Prop} {d : D} {v : V} {f : Str → M α} {Q : β → Hp → Prop} {Ex : XK} (r : Rp K mg O.cs (hide O H) v d) (h : Po K mg T R ((isStr d >>= f) S) O H Q Ex) :
    ∃ s, v = .str s ∧ d = .str s ∧ Po K mg T R (f s S) O H Q Ex := by
  cases r with
  | str s => exact ⟨s, rfl, rfl, h⟩
  | _ => exact h.elim
end
section
variable {X : Cx} {T : Tb} {E : XKs} {o e : Expr} {f g : BE} {apos pos : Pos}
/-! ### texts -/
/-- a text's method of one argument -/
def eS1 (h : Str → D → M D) (f g : BE) : BE := fun env => f env >>= fun a => isStr a >>= fun s => g env >>= fun b => h s b
theorem de_s1 {r : V → List V → Hp → VK → Prop} {h : Str → D → M D} {m : Str} (hp : ∀ {to te : TE}, PE X o to → PE X e te → PE X (.Call (.Attribute o m apos) [e] [] pos) (tM1 r to te))
    (hr : ∀ O H S y a b Q E, SOk X.K X.mg T O H S → Rp X.K X.mg O.cs (hide O H) y b → Po X.K X.mg T (Rp X.K X.mg) (h a b S) O H Q E → r (.str a) [y] H Q) (ho : DE X T E o f) (he : DE X T E e g) :
    DE X T E (.Call (.Attribute o m apos) [e] [] pos) (eS1 h f g) :=
  ⟨(hp ho.pe he.pe).monoZ fun σ H Q ⟨env, S, O, re, so, q⟩ => ⟨env, S, O, re, so, Po.bind q fun a S1 O1 H1 x l s1 r1 q1 => by
    obtain ⟨s, rfl, rfl, q1⟩ := po_isStr r1 q1
    exact ⟨⟨s, rfl⟩, env, S1, O1, re.mono l, s1, Po.bind q1 fun b S2 O2 H2 y l2 s2 r2 q2 => hr O2 H2 S2 y s b Q _ s2 r2 q2⟩⟩⟩
def gSplit (a : Str) (b : D) : M D := match b with
  | .str b => if (b.length == 0) = false ∧ a.length ≤ 1000000 then pure (.list ((Txt.split a b).map .str)) else no
  | _ => no
theorem de_split (ho : DE X T E o f) (he : DE X T E e g) (hs : starEach [e] X.env = [(false, eval e X.env)] := by rfl) (hbase : attributeBase o "split" X.env (eval o X.env) = eval o X.env := by rfl) (hline : (apos.endLine == pos.line) = true := by rfl) :
    DE X T E (.Call (.Attribute o "split" apos) [e] [] pos) (eS1 gSplit f g) :=
  de_s1 (fun ho he => pe_split ho he hs hbase hline) (fun O H S y a b Q E so r q => by
    unfold gSplit at q
    split at q
    · cases r
      split at q
      · rename_i h
        exact ⟨a, _, rfl, rfl, h.1, by have := h.2; rw [sizeLine_eq]; omega, new_lst so (rps_str _) q⟩
      · exact q.elim
    · exact q.elim) ho he
def gJoin (a : Str) (b : D) : M D := match b with
  | .list ds => ofO ((strD ds).bind fun ys => if (ys.map (·.length)).sum + ys.length * a.length ≤ 1000000 then some (.str (Txt.join a ys)) else none)
  | .tuple ds => ofO ((strD ds).bind fun ys => if (ys.map (·.length)).sum + ys.length * a.length ≤ 1000000 then some (.str (Txt.join a ys)) else none)
  | _ => no
theorem de_join (ho : DE X T E o f) (he : DE X T E e g) (hs : starEach [e] X.env = [(false, eval e X.env)] := by rfl) (hbase : attributeBase o "join" X.env (eval o X.env) = eval o X.env := by rfl) (hline : (apos.endLine == pos.line) = true := by rfl) :
    DE X T E (.Call (.Attribute o "join" apos) [e] [] pos) (eS1 (fun a b => rd b >>= gJoin a) f g) :=
  de_s1 (fun ho he => pe_join ho he hs hbase hline) (fun O H S y a b Q E so r q => by
    obtain ⟨b', sb, q⟩ := rd_po so r q
    unfold gJoin at q
    split at q
    · obtain ⟨d, h, q⟩ := po_ofO q
      obtain ⟨ys, h1, h2⟩ := Option.bind_eq_some_iff.mp h
      split at h2
      · rename_i hz
        cases h2
        obtain ⟨p, vs, rfl, h3, t⟩ := sb.list
        have ev := strD_rp t h1
        subst ev
        exact ⟨a, p, ys, rfl, rfl, .inl (.inl (.inl h3)), by omega, q O H _ Le.refl so (.str _)⟩
      · cases h2
    · obtain ⟨d, h, q⟩ := po_ofO q
      obtain ⟨ys, h1, h2⟩ := Option.bind_eq_some_iff.mp h
      split at h2
      · rename_i hz
        cases h2
        cases sb with
        | of r _ =>
          cases r with
          | tup h3 t =>
            have ev := strD_rp t h1
            subst ev
            exact ⟨a, _, ys, rfl, rfl, .inr (st_le h3), by omega, q O H _ Le.refl so (.str _)⟩
      · cases h2
    · exact q.elim) ho he

/-! ### the words whose truths are true, while an error is handled -/
def gPick (a b : D) : M D := match a, b with
  | .list ds, .list es => ofO ((bools es).bind fun bs => if ds.length = bs.length ∧ ds.length ≤ 1000 then some (.list (pickD ds bs)) else none)
  | _, _ => no
def ePick (f g : BE) : BE := fun env => f env >>= fun a => g env >>= fun b => rd b >>= fun b => gPick a b
theorem pick_rps {K : PySem.W.Frag} {mg : Str → Option Value} {O : List Addr} {G : Hp} : ∀ {ds : List D} {vs : List V} {bs : List Bool}, Rps K mg O G vs ds → Rps K mg O G (((vs.zip bs).filter (·.2)).map (·.1)) (pickD ds bs)
  | _, _, [], .nil => by simp [pickD]; exact .nil
  | _, _, [], .cons _ _ => by simp [pickD]; exact .nil
  | _, _, _ :: _, .nil => by simp [pickD]; exact .nil
  | _, _, b :: bs, .cons r t => by
    cases b with
    | true => simpa [pickD] using Rps.cons r (pick_rps t)
    | false => simpa [pickD] using pick_rps t
theorem de_pick {e1 e2 : Expr} {f1 f2 : BE} {wn gn : Str} {i j : Nat} {scope : Scope} {p1 p2 p3 p4 pos zp cp tp : Pos} {kk : Nat} (hc : L2H.HotC X) (hN : X.N.Nodup) (h1 : DE X T E e1 f1) (h2 : DE X T E e2 f2) (hmz : X.mg "zip" = none)
    (ok : BlkOk X.N X.env.scope scope [(wn, i), (gn, j)] := by exact blkOk_by (by decide +kernel)) (hij : i ≠ j := by decide)
    (iw : X.N[i]? = some wn := by rfl) (ig : X.N[j]? = some gn := by rfl) (lw : scope.names.lookup wn = some .local := by rfl) (lg : scope.names.lookup gn = some .local := by rfl)
    (hgz : Gl X "zip" := by rfl) (hs : starEach [e1, e2] X.env = (false, eval e1 X.env) :: starEach [e2] X.env := by rfl) (hpl : (backTo cp (starEach [e2] X.env)).any (·.1) = false := by rfl) (hs2 : starEach [e2] X.env = [(false, eval e2 X.env)] := by rfl)
    (hfs : ∀ x, foldedSetIterable (.Call (.Name "zip" zp) [e1, e2] [] cp) X.env x = pure x := by intro _; rfl) (hd1 : (wn == ("__debug__" : Str)) = false := by decide) (hd2 : (gn == ("__debug__" : Str)) = false := by decide) (hd3 : (wn == ("__classdict__" : Str)) = false := by decide) (hd4 : (gn == ("__classdict__" : Str)) = false := by decide) :
    DE X T E (.ListComp (.Name wn p1) [⟨.Tuple [.Name wn p2, .Name gn p3] kk tp, .Call (.Name "zip" zp) [e1, e2] [] cp, [.Name gn p4], 0⟩] scope pos) (ePick f1 f2) :=
  ⟨(pe_pick hc hN h1.pe h2.pe ok hij hmz iw ig lw lg hgz hs hpl hs2 hfs hd1 hd2 hd3 hd4).monoZ fun σ H Q ⟨env, S, O, re, so, q⟩ =>
    ⟨env, S, O, re, so, Po.bind q fun a S1 O1 H1 x l s1 r1 q1 => ⟨env, S1, O1, re.mono l, s1, Po.bind q1 fun b S2 O2 H2 y l2 s2 r2 q2 => by
      obtain ⟨b', sb, q2⟩ := rd_po s2 r2 q2
      unfold gPick at q2
      split at q2
      · obtain ⟨d, h, q3⟩ := po_ofO q2
        obtain ⟨bs, hb, h4⟩ := Option.bind_eq_some_iff.mp h
        split at h4
        · rename_i hz
          cases h4
          obtain ⟨p, vs, rfl, h5, t5⟩ := sb.list
          have ev := bools_rp t5 hb
          subst ev
          have r1' := r1.le l2
          cases r1' with
          | lst h6 t6 =>
            refine ⟨_, p, _, bs, rfl, rfl, (hide_le h6).2.1, h5, by rw [t6.length]; exact hz.1, by rw [t6.length]; exact hz.2, fun H' lp hs hn hl => ?_⟩
            have s3 := s2.same hs
            have ll : Le O2 H2 O2 H' := Le.same' hs
            exact q3 O2 H' _ ll s3 (.lst (hide_of (s2.ne hn) hl) (pick_rps (t6.le ll)))
        · cases h4
      · exact q2.elim⟩⟩⟩

/-! ### is the error that is handled one of these -/
theorem call_isEP {a D : Addr} {oe : Obj} (hp : (a, oe) ∈ X.pn) (C : ExcC X.K D) (hz : Zc (.ref D) none oe) (hf : ∃ vs, oe.data = .fields vs) : CallR X (.builtin "isinstance") (rIsE X.K D a) := by
  intro pins s σ H xs us Q I r h
  obtain ⟨c, cv, b, rfl, hcv, e, q⟩ := h
  cases r with
  | cons rx rr =>
    cases rr with
    | cons rt rr =>
      cases rr
      cases rx
      have ec := hcv _ rt
      subst ec
      obtain ⟨hget, _⟩ := I.pin (a, oe) (List.mem_append.mpr (.inl hp))
      obtain ⟨vs, hv⟩ := hf
      have J : PySem.W.InstAt s.heap a oe D none := by
        obtain ⟨oc, od, oda, osl⟩ := oe
        obtain ⟨h1, h2⟩ := hz
        dsimp only at h1 h2 hv
        subst h1 h2 hv
        exact ⟨hget, rfl, rfl, trivial⟩
      exact PySem.W.kia_one (PySem.W.handS_kitx_exc C.hg C.hk C.hs C.hd C.ha C.hn C.ht C.hm) I.kIn J e (fun z => nomatch z) fun tk => ⟨.bl b, H, I.kept (t' := tk) fun _ _ z => z, rfl, q⟩
/-- the own errors' classes: what isinstance answers of them -/
structure Errs (K : PySem.W.Frag) (mg : Str → Option Value) (cs : List Str) : Prop where
  cls : ∀ c ∈ cs, ∃ C, mg c = some (.ref C) ∧ ExcC K C
  kit : ∀ c ∈ cs, ∀ d ∈ cs, ∀ C D, mg c = some (.ref C) → mg d = some (.ref D) → PySem.W.kitOne K (.ref C) (.ref D) = some (decide (c = d))
  val : ∀ c ∈ cs, ∀ C, mg c = some (.ref C) → PySem.W.kitOne K (.ref C) (.type "ValueError") = some true
  bas : ∀ c ∈ cs, ∀ C B, mg c = some (.ref C) → mg "AimError" = some (.ref B) → PySem.W.exmOne K (.ref C) (.ref B) = some true
def eIsE (a : Addr) (b : Bool) (f : BE) : BE := fun env => f env >>= fun d => match d with
  | .adr a' => if a' = a then pure (.bool b) else no
  | _ => no
theorem de_isE {a : Addr} {oe : Obj} {C : Addr} {c dn x : Str} {cs : List Str} {e : Expr} {f : BE} {p p2 pos : Pos} (he : DE X T E e f) (ec : Errs X.K X.mg cs) (hp : (a, oe) ∈ X.pn) (hz : Zc (.ref C) none oe) (hf : ∃ vs, oe.data = .fields vs) (hc : c ∈ cs) (hC : X.mg c = some (.ref C)) (hd : dn ∈ cs)
    (hm : X.mg x = none) (hv : bootBuiltins x = some (.builtin "isinstance")) (hg : Gl X x := by rfl) (hg2 : Gl X dn := by rfl) (hn : x ≠ "__name__" := by decide) (hdb : (x == ("__debug__" : Str)) = false := by decide) (hdb2 : (dn == ("__debug__" : Str)) = false := by decide)
    (h1 : starEach [e, .Name dn p2] X.env = (false, eval e X.env) :: starEach [.Name dn p2] X.env := by rfl) (hpl : (backTo pos (starEach [.Name dn p2] X.env)).any (·.1) = false := by rfl) (h2 : starEach [.Name dn p2] X.env = [(false, eval (.Name dn p2) X.env)] := by rfl) :
    DE X T E (.Call (.Name x p) [e, .Name dn p2] [] pos) (eIsE a (decide (c = dn)) f) := by
  obtain ⟨D', hD, _⟩ := ec.cls dn hd
  obtain ⟨C', hC', xc⟩ := ec.cls c hc
  obtain rfl : C' = C := by rw [hC] at hC'; cases hC'; rfl
  have ek := ec.kit c hc dn hd _ _ hC hD
  exact ⟨(pe_callB (call_isEP hp xc hz hf) hg hm hv (pa_cons he.pe (pa_cons (pe_glob (v := .ref D') hg2 hD rfl hdb2) pa_nil (by rw [h2]; rfl)) h1) hn hdb h1 hpl).monoZ fun σ H Q ⟨env, S, O, re, so, q⟩ =>
    ⟨env, S, O, re, so, Po.bind q fun d S1 O1 H1 x l s1 r1 q1 => by
      cases r1 with
      | adr a' =>
        dsimp only at q1
        split at q1
        · rename_i e
          subst e
          exact ⟨.ref D', .ref D', _, rfl, fun u hu => hu, ek, q1 O1 H1 _ Le.refl s1 (.bl _)⟩
        · exact q1.elim
      | _ => exact q1.elim⟩⟩
/-- isinstance(e, ValueError) -/
theorem de_isEV {a : Addr} {oe : Obj} {C : Addr} {c dn x : Str} {cs : List Str} {e : Expr} {f : BE} {p p2 pos : Pos} (he : DE X T E e f) (ec : Errs X.K X.mg cs) (hp : (a, oe) ∈ X.pn) (hz : Zc (.ref C) none oe) (hf : ∃ vs, oe.data = .fields vs) (hc : c ∈ cs) (hC : X.mg c = some (.ref C))
    (hm : X.mg x = none) (hv : bootBuiltins x = some (.builtin "isinstance")) (hm2 : X.mg dn = none) (hv2 : bootBuiltins dn = some (.type "ValueError")) (hg : Gl X x := by rfl) (hg2 : Gl X dn := by rfl) (hn : x ≠ "__name__" := by decide) (hdb : (x == ("__debug__" : Str)) = false := by decide) (hn2 : dn ≠ "__name__" := by decide) (hdb2 : (dn == ("__debug__" : Str)) = false := by decide)
    (h1 : starEach [e, .Name dn p2] X.env = (false, eval e X.env) :: starEach [.Name dn p2] X.env := by rfl) (hpl : (backTo pos (starEach [.Name dn p2] X.env)).any (·.1) = false := by rfl) (h2 : starEach [.Name dn p2] X.env = [(false, eval (.Name dn p2) X.env)] := by rfl) :
    DE X T E (.Call (.Name x p) [e, .Name dn p2] [] pos) (eIsE a true f) := by
  obtain ⟨C', hC', xc⟩ := ec.cls c hc
  obtain rfl : C' = C := by rw [hC] at hC'; cases hC'; rfl
  have ek := ec.val c hc _ hC
  exact ⟨(pe_callB (call_isEP hp xc hz hf) hg hm hv (pa_cons he.pe (pa_cons (pe_bltn (v := .ty "ValueError") hg2 hm2 hv2 rfl hn2 hdb2) pa_nil (by rw [h2]; rfl)) h1) hn hdb h1 hpl).monoZ fun σ H Q ⟨env, S, O, re, so, q⟩ =>
    ⟨env, S, O, re, so, Po.bind q fun d S1 O1 H1 x l s1 r1 q1 => by
      cases r1 with
      | adr a' =>
        dsimp only at q1
        split at q1
        · rename_i e
          subst e
          exact ⟨.ty "ValueError", .type "ValueError", _, rfl, fun u hu => hu, ek, q1 O1 H1 _ Le.refl s1 (.bl _)⟩
        · exact q1.elim
      | _ => exact q1.elim⟩⟩
end
end Z
end
section
set_option maxHeartbeats 4000000
/-! A def called with the error that is handled; try with one clause that returns. -/
namespace Z
open PySem PySem.Spec PyProof.Rows L2

/-- x(e), e the error that is handled, is a text told by the error's class -/
structure Named (P : Program) (w : World) (K : PySem.W.Frag) (mg : Str → Option Value) (base : Heap) (T : Tb) (k : Nat) (x : Str) (cs : List Str) (wd : Str → Str) : Prop where
  ex : ∃ f fd q, mg x = some (.ref f) ∧ PySem.W.keepIn K (.ref f) = true ∧ Binds K fd [q] [] ∧
    ∀ (A : Around) (outer : List Env) (s : Shared) (H : Hp) (a : Addr) (oe : Obj) (c : Str) (C : Addr) (O : Ow) (S : Store) (Q : VK) (E : XK) (args : Args), L2H.RoomH k A → L2H.Hot1 A (a, oe) → L2H.PinOk outer H s (a, oe) → Env0 P w K mg base A outer s H → BindsTo s fd args ([q].zip [.ref a]) →
      c ∈ cs → mg c = some (.ref C) → L2N.Zn (.ref C) none oe → (∃ vs, oe.data = .fields vs) → SOk K mg T O H S → Po K mg T (Rp K mg) (.ok (.str (wd c)) S) O H Q E →
      codeAny (model P w) A (.call (.ref f) args) (CR (L2N.CX P w) outer P w H s Q E) s
theorem named_def {P : Program} {w : World} {K : PySem.W.Frag} {mg : Str → Option Value} {base : Heap} {T : Tb} {k : Nat} {x q : Str} {st : Stmt} {f : Addr} {fd : FuncData} {N : List Str} {cs : List Str} {wd : Str → Str} {b : Addr → Str → BS}
    (F : L2.Fun K x x st f fd) (S : FnScope N [q] (defScope st)) (hm : mg x = some (.ref f)) (hb : Binds K fd [q] [])
    (body : ∀ (a : Addr) (oe : Obj) (c : Str) (C : Addr) (cdv : Value) (A : Around) (outer : List Env) (s : Shared) (H : Hp) (E : XK), c ∈ cs → mg c = some (.ref C) → Zc (.ref C) none oe → (∃ vs, oe.data = .fields vs) → (a, oe) ∈ (L2H.cxH (L2N.CX P w) P w K mg base N x (defScope st) f cdv A outer s H E (a, oe)).pn →
      L2H.HotC (L2H.cxH (L2N.CX P w) P w K mg base N x (defScope st) f cdv A outer s H E (a, oe)) → DSs (L2H.cxH (L2N.CX P w) P w K mg base N x (defScope st) f cdv A outer s H E (a, oe)) T E0s (defBody st) (b a c))
    (hg : ∀ a c S0, c ∈ cs → fnOf true N.length (b a c) [.adr a] S0 = .ok (.str (wd c)) S0) : Named P w K mg base T (k + 1) x cs wd := by
  refine ⟨f, fd, q, hm, F.kp, hb, ?_⟩
  obtain ⟨oc, od, kV, doc, pm, an, cdv, ct, osl, rfl, lk, hcd⟩ := F.ex
  intro A outer s H a oe c C O S0 Q E args hr hot hpin e0 hbd hc hC hz hf so q0
  have KX : K.In s.heap := e0.mod.kin.keeps fun b o e => (e0.bs b o e).1
  have lim : s.heap.NoLimit := e0.mod.nolimit.keeps fun b o e => (e0.bs b o e).1
  have hkind : ∀ y ∈ [q].zip [Value.ref a], (defScope st).names.lookup y.1 = some .local ∨ ((defScope st).names.lookup y.1 = some .cell ∧ ((cellsFrom (s.heap.objs.size + 1) (defScope st).names []).lookup y.1).isSome = true) := fun ⟨n, v⟩ hy => by
    rcases S.par n (List.of_mem_zip hy).1 with q | q
    · exact .inl q
    · exact .inr ⟨q, PySem.W.cellsFrom_some _ _ _ (.inl q)⟩
  refine codeAny_call_function hr.depth (KX _ _ lk) rfl S.co S.gen rfl (PySem.W.codeRec_of KX hcd) (hbd _ _ _ _ ?_)
  refine wpAny_newFunctionEnv_cells S.kind hkind fun env he s1 x1 => ?_
  subst he
  refine ⟨lim.keeps x1.toInCall.keep, codeAny_func ?_⟩
  have I : Inv (L2H.cxH (L2N.CX P w) P w K mg base N x (defScope st) f cdv A outer s H E (a, oe)) [] (L2.start N [V.ref a]) H s1 := L2H.inv_startH S hpin e0 rfl (.cons rfl .nil) x1
  have hpl : 1 ≤ N.length := by have := congrArg List.length S.pre; rw [List.length_take] at this; simp at this; omega
  have Db := body a oe c C cdv A outer s H E hc hC hz.zc hf (by show (a, oe) ∈ [(a, oe)]; simp) ⟨(a, oe), hot, by show (a, oe) ∈ [(a, oe)]; simp⟩
  have eg := hg a c S0 hc
  have rs : Rps K mg O.cs (hide O H) [V.ref a] [D.adr a] := .cons (.adr a) .nil
  refine wpAny_mono (Db.pss.run [] s1 (L2.start N [V.ref a]) H { nx := fun _ H' => Q .non H', rt := Q } I ⟨[D.adr a].map some ++ List.replicate (N.length - 1) none, S0, O, renv_start rs hpl, so, ?_⟩) (fun fl s' hs => ?_) fun e s' hs => hs
  · have q1 : Po K mg T (Rp K mg) (endF true S0.length (b a c ([D.adr a].map some ++ List.replicate (N.length - 1) none) S0)) O H Q E := by
      have e1 : endF true S0.length (b a c ([D.adr a].map some ++ List.replicate (N.length - 1) none) S0) = .ok (.str (wd c)) S0 := eg
      rw [e1]
      exact q0
    show PoS K mg T (b a c ([D.adr a].map some ++ List.replicate (N.length - 1) none) S0) O H { nx := fun _ H' => Q .non H', rt := Q } E0s
    have e1 : endF true S0.length (b a c ([D.adr a].map some ++ List.replicate (N.length - 1) none) S0) = .ok (.str (wd c)) S0 := eg
    cases eb : b a c ([D.adr a].map some ++ List.replicate (N.length - 1) none) S0 with
    | next env S' =>
      rw [eb] at e1
      exact absurd e1 (by unfold endF; simp)
    | ret d S' =>
      rw [eb] at q1
      intro O' H' v l so' rv
      exact endT_ok so l so' rv q1
    | err c env S' => rw [eb] at e1; exact absurd e1 (by unfold endF; simp)
    | brk env S' => rw [eb] at e1; exact absurd e1 (by unfold endF; simp)
    | cont env S' => rw [eb] at e1; exact absurd e1 (by unfold endF; simp)
    | no => rw [eb] at e1; exact absurd e1 (by unfold endF; simp)
  · have fin : ∀ {σ' : L2.St} {H' : Hp} {v : V} {u : Value}, Inv (L2H.cxH (L2N.CX P w) P w K mg base N x (defScope st) f cdv A outer s H E (a, oe)) [] σ' H' s' → RelV v u → Q v H' → CE outer P w H s Q u s' :=
      fun {σ' H' v u} J rv q => ⟨v, H', J.os, J.bare, J.base, J.hok, rv, q⟩
    cases fl with
    | ret u =>
      obtain ⟨v, σ', H', J, rv, q⟩ := hs
      exact fin J rv q
    | next =>
      obtain ⟨σ', H', J, q⟩ := hs
      exact fin (v := V.non) (u := Value.none) J rfl q
    | brk =>
      obtain ⟨_, _, _, q⟩ := hs
      exact False.elim q
    | cont =>
      obtain ⟨_, _, _, q⟩ := hs
      exact False.elim q
section
variable {X : Cx} {T : Tb} {E : XKs} {k : Nat}
def eNamed (a : Addr) (r : Str) (f : BE) : BE := fun env => f env >>= fun d => match d with
  | .adr a' => if a' = a then pure (.str r) else no
  | _ => no
theorem hotC_of {a C : Addr} {oe : Obj} (hA : X.A.handled = some (.ref a)) (hp : (a, oe) ∈ X.pn) (hz : L2N.Zn (.ref C) none oe) (hf : ∃ vs, oe.data = .fields vs) : L2H.HotC X := by
  obtain ⟨vs, hv⟩ := hf
  exact ⟨(a, oe), ⟨hA, vs, hv, hz.2.2 vs hv⟩, hp⟩
/-- x(e) in the clause's suite -/
theorem de_named {a C : Addr} {oe : Obj} {c x : Str} {cs : List Str} {wd : Str → Str} {e : Expr} {f : BE} {p pos : Pos} (F : Named X.prog X.w X.K X.mg X.base T k x cs wd) (hr : L2H.RoomH k X.A) (hA : X.A.handled = some (.ref a)) (hp : (a, oe) ∈ X.pn) (hz : L2N.Zn (.ref C) none oe) (hf : ∃ vs, oe.data = .fields vs) (hc : c ∈ cs) (hC : X.mg c = some (.ref C)) (he : DE X T E0s e f)
    (hg : Gl X x := by rfl) (hdb : (x == ("__debug__" : Str)) = false := by decide) (h1 : starEach [e] X.env = (false, eval e X.env) :: starEach [] X.env := by rfl) (hpl : (backTo pos (starEach [] X.env)).any (·.1) = false := by rfl) :
    DE X T E0s (.Call (.Name x p) [e] [] pos) (eNamed a (wd c) f) := by
  obtain ⟨fa, fd, qn, hm, hk, hb, run⟩ := F.ex
  obtain ⟨vs0, hv0⟩ := hf
  refine ⟨⟨fun pins s σ H Q I h => ?_⟩⟩
  refine wpAny_Call_Name_kw (ld_glob I hg hm ?_ hdb)
  have ha : PA X [e] (tCons (tD X.K X.mg T E0s f) tNil) := pa_cons he.pe pa_nil h1
  obtain ⟨env, S, O, re, so, q⟩ := h
  have q : Po X.K X.mg T (Rp X.K X.mg) ((f env >>= fun d => match d with
    | .adr a' => if a' = a then pure (.str (wd c)) else no
    | _ => no) S) O H Q (E0s σ) := q
  refine PySem.W.callWith_K (h₀ := X.base) I.ok.mod.kin hk (thn (ha.run pos pins s σ H (fun vs H1 => ∃ O1 S1, vs = [V.ref a] ∧ SOk X.K X.mg T O1 H1 S1 ∧ Po X.K X.mg T (Rp X.K X.mg) (.ok (.str (wd c)) S1) O1 H1 Q (E0s σ)) I ?_) fun us s1 ⟨vs, H1, I1, r, O1, S1, ev, s1', q1⟩ => ⟨I1.kIn, ?_⟩) h1 hpl
  · refine ⟨env, S, O, re, so, Po.bind q fun d S1 O1 H1 x l s1 r1 q1 => ?_⟩
    cases r1 with
    | adr a' =>
      dsimp only at q1
      split at q1
      · rename_i ea
        subst ea
        exact ⟨O1, S1, rfl, s1, q1⟩
      · exact q1.elim
    | _ => exact q1.elim
  · subst ev
    cases r with
    | cons ru rn =>
    cases rn
    cases ru
    have b := hb s1 [.ref a] I1.kIn rfl
    rw [List.append_nil] at b
    have P1 := I1.pin (a, oe) (List.mem_append_left _ hp)
    have hpin : L2H.PinOk X.stack H1 s1 (a, oe) := ⟨P1.1, P1.2.1, fun hm => (List.mem_cons.mp (I1.stkSub a hm)).elim P1.2.2.1 P1.2.2.2.1, P1.2.2.2.2⟩
    refine wpAny_call (codeAny_mono (run X.A X.stack s1 H1 a oe c C O1 S1 Q (fun _ _ _ => False) ⟨[.ref a], []⟩ hr ⟨hA, vs0, hv0, hz.2.2 vs0 hv0⟩ hpin I1.env0 b hc hC hz ⟨vs0, hv0⟩ s1' q1) fun r s' hq => ?_)
    cases r with
    | error e => exact passAt0 (σ := σ) pins H1 s1 e s' I1 hq
    | ok fl =>
      cases fl with
      | ret u => exact I1.after hq
      | next => exact False.elim hq
      | brk => exact False.elim hq
      | cont => exact False.elim hq

/-! ### try, one clause that returns -/
/-- h: what is returned when c is caught -/
def sTryR (cs : List Str) (i : Nat) (h : Str → D) (f : BS) : BS := fun env S => match f env S with
  | .err c env' S' => if c ∈ cs ∧ i < env'.length then .ret (h c) S' else .no
  | r => r
theorem ds_tryR {x n : Str} {CS : Addr} {i : Nat} {body suite : List Stmt} {b₀ : Stmt} {np pos pos' : Pos} {cs : List Str} {h : Str → D} {fb : BS} {fs : Addr → Str → BS} (c : Cok X E k) (hcs : X.mg x = some (.ref CS)) (hcc : ∀ c ∈ cs, ∀ C, X.mg c = some (.ref C) → PySem.W.exmOne X.K (.ref C) (.ref CS) = some true)
    (hb : ∀ (pn : List (Addr × Obj)) (xe : Value → Shared → Prop) (E' : XKs), Cok (X.tr pn xe) E' k → DSs (X.tr pn xe) T E' body fb)
    (hsu : ∀ (a : Addr) (oe : Obj) (c : Str) (C : Addr) (pn : List (Addr × Obj)), c ∈ cs → X.mg c = some (.ref C) → L2N.Zn (.ref C) none oe → (∃ vs, oe.data = .fields vs) → DSs (X.suite a ((a, oe) :: pn)) T E0s (b₀ :: suite) (fs a c))
    (hfs : ∀ (a : Addr) (c : Str) (env : Ev) (S : Store), c ∈ cs → i < env.length → fs a c (env.set i (some (.adr a))) S = .ret (h c) S)
    (hs : X.stack = X.env :: X.outer := by rfl) (hf : X.env.frame = some X.env.locals := by rfl) (hi : X.N[i]? = some n := by rfl) (hln : X.env.kindOf n = some .local := by rfl) (hg : Gl X x := by rfl) (hdb : (x == ("__debug__" : Str)) = false := by decide) :
    DS X T E (.Try body [.ExceptHandler (some (.Name x np)) (some n) (b₀ :: suite) pos'] [] [] pos) (sTryR cs i h fb) := by
  refine ⟨(L2N.ps_try_as (c := .ref CS) (tb := fun W => tDS X.K X.mg T (fun σ cls d H => W cls d σ H) fb)
      (ts := fun a cls d D σ H => ∃ c C, c ∈ cs ∧ cls = .ref C ∧ X.mg c = some (.ref C) ∧ d = none ∧ tDS X.K X.mg T E0s (fs a c) D σ H) hs hf c.nd hi hln ⟨hg, hdb, .inl hcs⟩ c.tk (fun W pn xe tk po => ?_) (fun a oe cls d pn hz hfi => ?_)).monoZ fun Dn σ H ⟨env, S, O, re, so, q⟩ => ⟨env, S, O, re, so, ?_⟩⟩
  · exact (hb pn xe (fun σ cls d H => W cls d σ H) ⟨c.calm, c.nd, fun σ => L2N.passAt tk σ, po, c.room, tk⟩).pss
  · refine ⟨fun pins s σ H D I hh => ?_⟩
    obtain ⟨c', C, hc', rfl, hC', rfl, hh⟩ := hh
    exact (hsu a oe c' C pn hc' hC' hz hfi).pss.run pins s σ H D I hh
  · unfold sTryR at q
    cases eb : fb env S with
    | err c' env' S' =>
      rw [eb] at q
      dsimp only at q
      split at q
      · rename_i hc'
        intro O' H' σ' C l so' re' hC
        refine ⟨true, hcc c' hc'.1 C hC, fun _ a na => ⟨c', C, hc'.1, rfl, hC, rfl, env'.set i (some (.adr a)), S', O', re'.set (.adr a), so', ?_⟩, fun z => by cases z⟩
        rw [hfs a c' env' S' hc'.1 hc'.2]
        exact fun O2 H2 v l2 so2 r2 => q O2 H2 v (l.trans l2) so2 r2
      · exact q.elim
    | next env' S' => rw [eb] at q; exact q
    | ret d S' => rw [eb] at q; exact q
    | brk env' S' => rw [eb] at q; exact q
    | cont env' S' => rw [eb] at q; exact q
    | no => rw [eb] at q; exact q
end
end Z
end
section
set_option maxHeartbeats 4000000
/-! Lambdas handed to defs. -/
namespace Z
open PySem PySem.Spec PyProof.Rows L2 LamX NdefX

section
variable {fs : List Addr} {H H' H1 : Hp} {h h' h1 : Heap}
theorem Un.slotCell (u : Un fs [] H H' h h') {c : Addr} {v : Option Value} (n : H c = none) (x : h.IsCell c v) : h'.IsCell c v := by
  obtain ⟨o, ho, hd⟩ := x
  obtain ⟨sl, e⟩ := u.any ho n (by simp)
  exact ⟨_, e, hd⟩
theorem cells_un {cl : List (Str × Addr)} {fr : List Str} {ws : List (Option V)} (C : CellsAt cl fr ws h H) (u : Un fs [] H H' h h') : CellsAt cl fr ws h' H' := by
  refine ⟨C.len, fun y c e => ?_, C.inj, fun i y e => ?_⟩
  · obtain ⟨n, v, z⟩ := C.all y c e
    obtain ⟨o, ho, _⟩ := id z
    exact ⟨u.free c o ho n (by simp), v, Un.slotCell u n z⟩
  · obtain ⟨c, hc, hv⟩ := C.has i y e
    refine ⟨c, hc, fun v ev => ?_⟩
    obtain ⟨x, r, z⟩ := hv v ev
    exact ⟨x, r, Un.slotCell u (C.all y c hc).1 z⟩
theorem Lw.trans {O O1 O2 : Ow} (a : Lw O H O1 H1) (b : Lw O1 H1 O2 H') : Lw O H O2 H' := by
  obtain ⟨⟨r, e⟩, s⟩ := a
  obtain ⟨⟨r', e'⟩, s'⟩ := b
  exact ⟨⟨r ++ r', by rw [e', e]; simp⟩, s.trans s'⟩
theorem Lw.refl {O : Ow} : Lw O H O H := Le.refl.w
end
/-! ### what stays true: the state came from another -/
def Tb.plus (T : Tb) (O0 : Ow) (H0 : Hp) : Tb := ⟨T.tabs, fun O H => T.inv O H ∧ Lw O0 H0 O H, fun l x => ⟨T.mono l x.1, Lw.trans x.2 l⟩⟩
structure TLe (T' T : Tb) : Prop where
  tabs : T'.tabs = T.tabs
  inv : ∀ O H, T'.inv O H → T.inv O H
theorem TLe.refl {T : Tb} : TLe T T := ⟨rfl, fun _ _ h => h⟩
theorem TLe.plus {T : Tb} {O0 : Ow} {H0 : Hp} : TLe (T.plus O0 H0) T := ⟨rfl, fun _ _ h => h.1⟩
section
variable {K : PySem.W.Frag} {mg : Str → Option Value} {T T' : Tb} {O : Ow} {H : Hp} {S : Store}
theorem SOk.down (s : SOk K mg T' O H S) (l : TLe T' T) : SOk K mg T O H S := ⟨s.len, s.nd, s.cell, by rw [← l.tabs]; exact s.tabs, l.inv _ _ s.inv, s.own⟩
theorem SOk.up (s : SOk K mg T O H S) (l : TLe T' T) (i : T'.inv O H) : SOk K mg T' O H S := ⟨s.len, s.nd, s.cell, by rw [l.tabs]; exact s.tabs, i, s.own⟩
theorem Po.down {α β : Type} {R : List Addr → Hp → β → α → Prop} {r : Res α} {Q : β → Hp → Prop} {Ex : XK} (so : SOk K mg T' O H S) (l : TLe T' T) (q : Po K mg T' R r O H Q Ex) : Po K mg T R r O H Q Ex := by
  cases r with
  | ok a S' => exact fun O' H' b le s rr => q O' H' b le (s.up l (T'.mono le.w so.inv)) rr
  | err c S' => exact fun O' H' C le s e => q O' H' C le (s.up l (T'.mono le.w so.inv)) e
  | no => exact q
theorem Po.up {α β : Type} {R : List Addr → Hp → β → α → Prop} {r : Res α} {Q : β → Hp → Prop} {Ex : XK} (l : TLe T' T) (q : Po K mg T R r O H Q Ex) : Po K mg T' R r O H Q Ex := by
  cases r with
  | ok a S' => exact fun O' H' b le s rr => q O' H' b le (s.down l) rr
  | err c S' => exact fun O' H' C le s e => q O' H' C le (s.down l) e
  | no => exact q
end
/-- the promise of the lambda at f, made in or before the state s0, H0 -/
structure LamP (P : Program) (w : World) (K : PySem.W.Frag) (mg : Str → Option Value) (base : Heap) (T : Tb) (fr : List Addr) (k : Nat) (s0 : Shared) (H0 : Hp) (O0 : Ow) (f : Addr) (n : Nat) (g : List D → M D) : Prop where
  obj : ∀ (s1 : Shared) (H1 : Hp), Un fr [] H0 H1 s0.heap s1.heap → PySem.W.FnAt f s1.heap
  run : ∀ (A : Around) (outer : List Env) (s1 : Shared) (H1 : Hp) (us : List Value) (vs : List V) (Q : VK) (E : XK), Room k A → Env0 P w K mg base A outer s1 H1 → Un fr [] H0 H1 s0.heap s1.heap → Vals vs us →
    (∃ ds S O, ds.length = n ∧ Lw O0 H0 O H1 ∧ Rps K mg O.cs (hide O H1) vs ds ∧ SOk K mg T O H1 S ∧ Po K mg T (Rp K mg) (g ds S) O H1 Q E) →
    codeAny (model P w) A (.call (.ref f) ⟨us, []⟩) (CR (L2N.CX P w) outer P w H1 s1 Q E) s1
theorem LamP.mono {P : Program} {w : World} {K : PySem.W.Frag} {mg : Str → Option Value} {base : Heap} {T : Tb} {fr : List Addr} {j k : Nat} {s0 : Shared} {H0 : Hp} {O0 : Ow} {f : Addr} {n : Nat} {g : List D → M D} (F : LamP P w K mg base T fr j s0 H0 O0 f n g) (h : j ≤ k) : LamP P w K mg base T fr k s0 H0 O0 f n g :=
  ⟨F.obj, fun A outer s1 H1 us vs Q E hr => F.run A outer s1 H1 us vs Q E (hr.mono h)⟩
/-- what a lambda computes: body over the arguments, then the captured names -/
def lamEv (n : Nat) (js : List Nat) (env : Ev) (ds : List D) : Ev := ds.map some ++ (js.map (fun j => env[j]?.getD none) ++ List.replicate (n - ds.length - js.length) none)
theorem cok_lam {P : Program} {w : World} {K : PySem.W.Frag} {mg : Str → Option Value} {base : Heap} {N ps fr : List Str} {F : NF} {f : Addr} {A : Around} {outer : List Env} {s : Shared} {H : Hp} {E : XK} {k : Nat} (S : NScope N ps fr F.scope)
    (hr : Room k (A.deeper (envF F f s.heap.objs.size))) : Cok (ncx (L2N.CX P w) P w K mg base N F f A outer s H E) (fun _ => E) k :=
  have tk : L2N.Takes (ncx (L2N.CX P w) P w K mg base N F f A outer s H E) (fun c d _ H => E c d H) := L2N.takes_of rfl rfl rfl rfl
  ⟨rfl, S.nd, fun σ => L2N.passAt tk σ, passes_of rfl, hr, tk⟩
section
variable {X : Cx} {pins : List (Addr × Obj)} {σ : L2.St} {H : Hp} {s : Shared} {T : Tb} {O : Ow}
theorem lam_p {N ps fr : List Str} {js : List Nat} {cl : List (Str × Addr)} {q : Str} {params : Arguments} {body : Expr} {scope : Scope} {pm ctv : Value} {f c' : Addr} {env : Ev} {fb : BE} {k : Nat} (I : Inv X pins σ H s) (re : REnv X.K X.mg O.cs (hide O H) σ env) (cp : Caps X cl fr js)
    (hf : s.heap.get? f = some (PySem.W.kla_obj "<lambda>" q params body scope cl pm c' ctv)) (hfn : H f = none) (hfr : f ∉ frs X.stack) (hc : hide O H c' = some (CodeO c' q)) (Sn : NScope N ps fr scope)
    (hbind : ∀ us : List Value, us.length = ps.length → bindArgs (PySem.W.kla_fn "<lambda>" q params body scope cl pm (.ref c') ctv) ⟨us, []⟩ = pure (ps.zip us))
    (hb : ∀ (A : Around) (outer : List Env) (s : Shared) (H : Hp) (E : XK), Cok (ncx (L2N.CX X.prog X.w) X.prog X.w X.K X.mg X.base N ⟨"<lambda>", q, params, [], scope, cl, c'⟩ f A outer s H E) (fun _ => E) k → DE (ncx (L2N.CX X.prog X.w) X.prog X.w X.K X.mg X.base N ⟨"<lambda>", q, params, [], scope, cl, c'⟩ f A outer s H E) T (fun _ => E) body fb) :
    LamP X.prog X.w X.K X.mg X.base T (frs X.stack) (k + 1) s H O f ps.length (fun as => fb (lamEv N.length js env as)) := by
  have C0 := cells_of I cp
  refine ⟨fun s1 H1 u => ⟨_, _, _, _, u.keep f _ hf hfn hfr (by simp)⟩, fun A outer s1 H1 us vs Q E hr e0 u r h => ?_⟩
  obtain ⟨ds, S, O1, hn, lw, rs, so, qq⟩ := h
  have of1 := u.keep f _ hf hfn hfr (by simp)
  have C1 := cells_un C0 u
  have hc1 : H1 c' = some (CodeO c' q) := (hide_le (lw.same _ _ hc)).2.1
  obtain ⟨⟨oc, vs0, t, hoc, hdc, hvc⟩, _, _⟩ := e0.hok c' _ hc1
  have hl : vs.length = ps.length := by rw [rs.length]; exact hn
  have lim : s1.heap.NoLimit := e0.mod.nolimit.keeps fun b o e => (e0.bs b o e).1
  refine PySem.W.kla_callFunE hr.depth of1 rfl Sn.co Sn.gen rfl ⟨c', oc, vs0, t, rfl, hoc, hdc, hvc⟩ ?_
  rw [hbind us (by rw [← r.length]; exact hl)]
  refine wpAny_pure (wpAny_newFunctionEnv Sn.nocell (fun ⟨n, _⟩ hy => Sn.par n (List.of_mem_zip hy).1) (fun h₁ hns hsb => ⟨lim.fresh _ hsb, ?_⟩) Sn.kind)
  have kp : ∀ b o, s1.heap.get? b = some o → h₁.get? b = some o := fun b o e => hsb.extBut b o (Nat.ne_of_lt (Heap.lt_size e)) (Heap.get?_push_of_some _ e)
  have J : Inv (ncx (L2N.CX X.prog X.w) X.prog X.w X.K X.mg X.base N ⟨"<lambda>", q, params, [], scope, cl, c'⟩ f A outer s1 H1 E) [] (startF N vs (js.map (slotAt σ))) H1 { s1 with heap := h₁, toks := s1.toks + (ps.zip us).length } :=
    inv_startN (F := ⟨"<lambda>", q, params, [], scope, cl, c'⟩) Sn hr.hd e0 hl r C1 hns kp
  have clen : js.length = fr.length := by
    have := congrArg List.length cp.at_
    simpa using this
  have hpl : ps.length + fr.length ≤ N.length := by
    have q := congrArg List.length Sn.pre
    rw [List.length_take, List.length_append] at q
    omega
  have re1 : REnv X.K X.mg O1.cs (hide O1 H1) (startF N vs (js.map (slotAt σ))) (lamEv N.length js env ds) := by
    refine ⟨by unfold startF lamEv; simp; omega, fun i d e => ?_⟩
    unfold lamEv at e
    unfold startF
    by_cases h1 : i < ds.length
    · rw [List.getElem?_append_left (by simpa using h1), List.getElem?_map] at e
      obtain ⟨d', e1, e2⟩ := Option.map_eq_some_iff.mp e
      cases e2
      obtain ⟨v, h3, h4⟩ := rs.get e1
      exact ⟨v, by rw [List.getElem?_append_left (by simp; omega), List.getElem?_map, h3]; rfl, h4⟩
    · rw [List.getElem?_append_right (by simp; omega), List.length_map] at e
      by_cases h2 : i - ds.length < js.length
      · rw [List.getElem?_append_left (by simpa using h2), List.getElem?_map] at e
        obtain ⟨j, e1, e2⟩ := Option.map_eq_some_iff.mp e
        obtain ⟨v, h3, h4⟩ := re.2 j d (by
          cases q1 : env[j]? with
          | none => rw [q1] at e2; cases e2
          | some o => rw [q1] at e2; cases e2; rfl)
        refine ⟨v, ?_, h4.mono lw.pre lw.same⟩
        rw [List.getElem?_append_right (by simp; omega), List.getElem?_append_left (by simp; omega), List.getElem?_map]
        have e3 : vs.length = ds.length := rs.length
        rw [List.length_map, e3, e1]
        exact congrArg some (slotAt_of h3)
      · rw [List.getElem?_append_right (by simp; omega), List.getElem?_replicate] at e
        split at e <;> cases e
  refine PySem.W.kla_codeExpr (wpAny_mono ((hb A outer s1 H1 E (cok_lam Sn (hr.deeper _))).pe.run [] _ _ H1 Q J ⟨_, S, O1, re1, so, qq⟩) (fun v s' hq => ?_) fun e s' hq => hq)
  obtain ⟨w', H', J', rv, q⟩ := hq
  exact ⟨w', H', J'.os, J'.bare, J'.base, J'.hok, rv, q⟩
end
end Z
end
section
set_option maxHeartbeats 4000000
/-! Defs that get a lambda; the lambda called there. -/
namespace Z
open PySem PySem.Spec PyProof.Rows L2 LamX NdefX

section
variable {X : Cx} {T T0 : Tb} {E : XKs} {k j : Nat}
def isAdr (f : Addr) : D → M Unit
  | .adr f' => if f' = f then pure () else no
  | _ => no
def eCallV (f : Addr) (n : Nat) (g : List D → M D) (v : BE) (fs : BA) : BE := fun env => v env >>= fun d => isAdr f d >>= fun _ => fs env >>= fun as => if as.length = n then g as else no
/-- what came to the running frame with the lambda holds of all its states -/
structure LamC (X : Cx) (T T0 : Tb) (fr : List Addr) (s0 : Shared) (H0 : Hp) (O0 : Ow) : Prop where
  le : TLe T T0
  org : ∀ O H, T.inv O H → Lw O0 H0 O H
  un : ∀ (pins : List (Addr × Obj)) (σ : L2.St) (H : Hp) (s : Shared), Inv X pins σ H s → Un fr [] H0 H s0.heap s.heap
theorem callV_run {fr : List Addr} {s0 : Shared} {H0 : Hp} {O0 : Ow} {f : Addr} {n : Nat} {g : List D → M D} (F : LamP X.prog X.w X.K X.mg X.base T0 fr j s0 H0 O0 f n g) (lc : LamC X T T0 fr s0 H0 O0) (c : Cok X E k) (hj : j ≤ k)
    {pins : List (Addr × Obj)} {σ : L2.St} {H : Hp} {s : Shared} {us : List Value} {vs : List V} {as : List D} {S : Store} {O : Ow} {Q : VK} (I : Inv X pins σ H s) (r : Vals vs us) (rs : Rps X.K X.mg O.cs (hide O H) vs as) (so : SOk X.K X.mg T O H S)
    (q : Po X.K X.mg T (Rp X.K X.mg) ((if as.length = n then g as else no : M D) S) O H Q (E σ)) : wpAny (model X.prog X.w) X.A (call (.ref f) us) (EP X pins σ Q) X.xe s := by
  by_cases hn : as.length = n
  · rw [if_pos hn] at q
    refine wpAny_call (codeAny_mono (F.run X.A X.stack s H us vs Q (E σ) (c.room.mono hj) I.env0 (lc.un pins σ H s I) r ⟨as, S, O, hn, lc.org O H so.inv, rs, so.down lc.le, Po.down so lc.le q⟩) fun r s' hq => ?_)
    cases r with
    | error e => exact c.pass σ pins H s e s' I hq
    | ok fl =>
      cases fl with
      | ret u => exact I.after hq
      | next => exact False.elim hq
      | brk => exact False.elim hq
      | cont => exact False.elim hq
  · rw [if_neg hn] at q
    exact q.elim
theorem po_adr {α β : Type} {K : PySem.W.Frag} {mg : Str → Option Value} {R : List Addr → Hp → β → α → Prop} {d : D} {v : V} {f : Addr} {m : Unit → M α} {S : Store} {O : Ow} {H : Hp} {Q : β → Hp → Prop} {Ex : XK} (r : Rp K mg O.cs (hide O H) v d) (h : Po K mg T R ((isAdr f d >>= m) S) O H Q Ex) :
    v = .ref f ∧ Po K mg T R (m () S) O H Q Ex := by
  cases r with
  | adr a =>
    unfold isAdr at h
    dsimp only at h
    split at h
    · rename_i e
      exact ⟨by rw [e], h⟩
    · exact h.elim
  | _ => exact h.elim
theorem de_callV0 {fr : List Addr} {s0 : Shared} {H0 : Hp} {O0 : Ow} {f : Addr} {n : Nat} {g : List D → M D} {a : Str} {v : BE} {p pos : Pos} (F : LamP X.prog X.w X.K X.mg X.base T0 fr j s0 H0 O0 f n g) (lc : LamC X T T0 fr s0 H0 O0) (c : Cok X E k) (hv : DE X T E (.Name a p) v) (hj : j ≤ k) :
    DE X T E (.Call (.Name a p) [] [] pos) (eCallV f n g v aNil) := by
  refine ⟨⟨fun pins s σ H Q I h => ?_⟩⟩
  obtain ⟨env, S, O, re, so, q⟩ := h
  refine wpAny_Call_Name_kw (thn (hv.pe.run pins s σ H (fun x H1 => x = .ref f ∧ ∃ O1 S1, SOk X.K X.mg T O1 H1 S1 ∧ Po X.K X.mg T (Rp X.K X.mg) ((if ([] : List D).length = n then g [] else no : M D) S1) O1 H1 Q (E σ)) I ⟨env, S, O, re, so, Po.bind q fun d S1 O1 H1 x l s1 r1 q1 => ?_⟩) fun u s1 ⟨x, H1, I1, r1, ev, O1, S1, so1, q1⟩ => ?_)
  · obtain ⟨e, q2⟩ := po_adr r1 q1
    exact ⟨e, O1, S1, s1, q2⟩
  · subst ev
    obtain rfl : u = Value.ref f := r1
    exact PySem.W.callWith_F0 (F.obj s1 H1 (lc.un _ _ _ _ I1)) (callV_run F lc c hj I1 .nil .nil so1 q1)
theorem de_callV {fr : List Addr} {s0 : Shared} {H0 : Hp} {O0 : Ow} {f : Addr} {n : Nat} {g : List D → M D} {a : Str} {v : BE} {e : Expr} {es : List Expr} {fs : BA} {p pos : Pos} (F : LamP X.prog X.w X.K X.mg X.base T0 fr j s0 H0 O0 f n g) (lc : LamC X T T0 fr s0 H0 O0) (c : Cok X E k) (hv : DE X T E (.Name a p) v) (ha : DA X T E (e :: es) fs) (hj : j ≤ k)
    (he : starEach (e :: es) X.env = (false, eval e X.env) :: starEach es X.env := by rfl) (hpl : (backTo pos (starEach es X.env)).any (·.1) = false := by rfl) :
    DE X T E (.Call (.Name a p) (e :: es) [] pos) (eCallV f n g v fs) := by
  refine ⟨⟨fun pins s σ H Q I h => ?_⟩⟩
  obtain ⟨env, S, O, re, so, q⟩ := h
  refine wpAny_Call_Name_kw (thn (hv.pe.run pins s σ H (fun x H1 => x = .ref f ∧ ∃ O1 S1, Le O H O1 H1 ∧ SOk X.K X.mg T O1 H1 S1 ∧ Po X.K X.mg T (Rp X.K X.mg) ((fs env >>= fun as => if as.length = n then g as else no) S1) O1 H1 Q (E σ)) I ⟨env, S, O, re, so, Po.bind q fun d S1 O1 H1 x l s1 r1 q1 => ?_⟩) fun u s1 ⟨x, H1, I1, r1, ev, O1, S1, l, so1, q1⟩ => ?_)
  · obtain ⟨e, q2⟩ := po_adr r1 q1
    exact ⟨e, O1, S1, l, s1, q2⟩
  · subst ev
    obtain rfl : u = Value.ref f := r1
    refine PySem.W.callWith_F (F.obj s1 H1 (lc.un _ _ _ _ I1)) (thn (ha.pa.run pos pins s1 σ H1 (fun vs H2 => ∃ as S2 O2, Rps X.K X.mg O2.cs (hide O2 H2) vs as ∧ SOk X.K X.mg T O2 H2 S2 ∧ Po X.K X.mg T (Rp X.K X.mg) ((if as.length = n then g as else no : M D) S2) O2 H2 Q (E σ)) I1 ⟨env, S1, O1, re.mono l, so1, Po.bind q1 fun as S2 O2 H2 xs l2 s2 r2 q2 => ⟨as, S2, O2, r2, s2, q2⟩⟩) fun us s2 ⟨vs, H2, I2, r2, as, S2, O2, rs, so2, q2⟩ => ⟨F.obj s2 H2 (lc.un _ _ _ _ I2), ?_⟩) he hpl
    exact callV_run F lc c hj I2 r2 rs so2 q2
end

/-! ### defs that get a lambda as their first argument -/
/-- x(lambda, ds): G tells what it makes of what the lambda computes -/
structure HFn (P : Program) (w : World) (K : PySem.W.Frag) (mg : Str → Option Value) (base : Heap) (T : Tb) (k : Nat) (x : Str) (n m : Nat) (G : (List D → M D) → List D → M D) : Prop where
  ex : ∃ fa fd ps, mg x = some (.ref fa) ∧ PySem.W.keepIn K (.ref fa) = true ∧ Binds K fd ps [] ∧ ps.length = n + 1 ∧
    ∀ (A : Around) (outer : List Env) (s : Shared) (H : Hp) (f : Addr) (g : List D → M D) (O : Ow) (S : Store) (us : List Value) (vs : List V) (ds : List D) (Q : VK) (E : XK) (args : Args), Room (k + 1) A → Env0 P w K mg base A outer s H → LamP P w K mg base T (frs outer) k s H O f m g →
      BindsTo s fd args (ps.zip (.ref f :: us)) → Vals vs us → ds.length = n → Rps K mg O.cs (hide O H) vs ds → SOk K mg T O H S → Po K mg T (Rp K mg) (G g ds S) O H Q E → codeAny (model P w) A (.call (.ref fa) args) (CR (L2N.CX P w) outer P w H s Q E) s
section
variable {P : Program} {w : World} {K : PySem.W.Frag} {mg : Str → Option Value} {base : Heap} {T : Tb} {k : Nat} {x : Str}
theorem hfn_def {n m : Nat} {st : Stmt} {f : Addr} {fd : FuncData} {N ps : List Str} {G : (List D → M D) → List D → M D} {ι : Type} {td : Bool} {b : ι → Addr → (List D → M D) → BS}
    (F : L2.Fun K x x st f fd) (S : FnScope N ps (defScope st)) (hm : mg x = some (.ref f)) (hb : Binds K fd ps []) (hn : ps.length = n + 1)
    (body : ∀ (i : ι) (fl : Addr) (g : List D → M D) (cdv : Value) (A : Around) (outer : List Env) (s : Shared) (H : Hp) (E : XK) (O0 : Ow), fd.code = cdv → LamP P w K mg base T (frs outer) k s H O0 fl m g →
      (∀ (pn : List (Addr × Obj)) (xe : Value → Shared → Prop), LamC ((cxOf (L2N.CX P w) P w K mg base N x (defScope st) f cdv A outer s H E).tr pn xe) (T.plus O0 H) T (frs outer) s H O0) →
      Cok (cxOf (L2N.CX P w) P w K mg base N x (defScope st) f cdv A outer s H E) (fun _ => E) k → DSs (cxOf (L2N.CX P w) P w K mg base N x (defScope st) f cdv A outer s H E) (T.plus O0 H) (fun _ => E) (defBody st) (b i fl g))
    (hg : ∀ fl g ds S0, ds.length = n → G g ds S0 ≠ .no → ∃ i, fnOf td N.length (b i fl g) (.adr fl :: ds) S0 = G g ds S0) : HFn P w K mg base T k x n m G := by
  refine ⟨f, fd, ps, hm, F.kp, hb, hn, ?_⟩
  obtain ⟨oc, od, kV, doc, pm, an, cdv, ct, osl, rfl, lk, hcd⟩ := F.ex
  intro A outer s H fl g O S0 us vs ds Q E args hr e0 lp hbd rv hds rs so q
  obtain ⟨i, ei⟩ := hg fl g ds S0 hds fun z => by rw [z] at q; exact q
  rw [← ei] at q
  have hpl : ps.length ≤ N.length := by have := congrArg List.length S.pre; rw [List.length_take] at this; omega
  have soP : SOk K mg (T.plus O H) O H S0 := so.up TLe.plus ⟨so.inv, Lw.refl⟩
  have rs2 : Rps K mg O.cs (hide O H) (V.ref fl :: vs) (D.adr fl :: ds) := .cons (.adr fl) rs
  refine LamX.run_ofS (us := .ref fl :: us) (vs := .ref fl :: vs) lk hcd S hr e0 hbd (.cons rfl rv) (by rw [List.length_cons, rs.length, hds, hn]) fun hr' => ?_
  have dss := body i fl g cdv A outer s H E O rfl lp (fun pn xe => ⟨TLe.plus, fun _ _ h => h.2, fun _ _ _ _ J => J.base⟩) (cok_def S hr')
  refine ⟨_, dss.pss, (D.adr fl :: ds).map some ++ List.replicate (N.length - (D.adr fl :: ds).length) none, S0, O, renv_start rs2 (by rw [List.length_cons, hds]; omega), soP, ?_⟩
  have q : Po K mg (T.plus O H) (Rp K mg) (endF td S0.length (b i fl g ((D.adr fl :: ds).map some ++ List.replicate (N.length - (D.adr fl :: ds).length) none) S0)) O H Q E := Po.up TLe.plus q
  show PoS K mg (T.plus O H) (b i fl g ((D.adr fl :: ds).map some ++ List.replicate (N.length - (D.adr fl :: ds).length) none) S0) O H { nx := fun _ H' => Q .non H', rt := Q } (fun _ => E)
  cases eb : b i fl g ((D.adr fl :: ds).map some ++ List.replicate (N.length - (D.adr fl :: ds).length) none) S0 with
  | next env S' =>
    rw [eb] at q
    intro O' H' σ' l so' re
    unfold endF at q
    dsimp only at q
    split at q
    · exact q (O'.cut S0.length) H' .non (le_cut soP l) (sok_cut soP l so') .non
    · exact q O' H' .non l so' .non
  | ret d S' =>
    rw [eb] at q
    intro O' H' v l so' rv
    unfold endF at q
    dsimp only at q
    split at q
    · exact endT_ok soP l so' rv q
    · exact q O' H' v l so' rv
  | err c env S' =>
    rw [eb] at q
    exact fun O' H' σ' C l so' _ z => q O' H' C l so' z
  | brk env S' => rw [eb] at q; exact (show False from q).elim
  | cont env S' => rw [eb] at q; exact (show False from q).elim
  | no => rw [eb] at q; exact q
end
section
variable {X : Cx} {T : Tb} {E : XKs} {k j : Nat}
/-- x(lambda ..: body, es) -/
def eHof (n nn : Nat) (js : List Nat) (fb : BE) (G : (List D → M D) → List D → M D) (fs : BA) : BE := fun env => fs env >>= fun ds => if ds.length = n then G (fun as => fb (lamEv nn js env as)) ds else no
theorem sok_ext {K : PySem.W.Frag} {mg : Str → Option Value} {O : Ow} {H H' : Hp} {S : Store} (s : SOk K mg T O H S) (e : ExtN H H') (t : Tabs T.tabs H') : SOk K mg T O H' S := by
  have l : Le O H O H' := Le.ext e
  refine ⟨s.len, s.nd, fun n a c e1 e2 => ?_, t, T.mono l.w s.inv, fun q hq => ?_⟩
  · have := s.cell n a c e1 e2
    cases c with
    | lst ds =>
      obtain ⟨vs, z, t⟩ := this
      exact ⟨vs, e _ _ z (fun ps q => by cases q), Rps.le0 t l⟩
  · obtain ⟨h1, vs, h2⟩ := s.own q hq
    exact ⟨h1, vs, e _ _ h2 (fun ps q => by cases q)⟩
theorem code_hide {K : PySem.W.Frag} {mg : Str → Option Value} {O : Ow} {H : Hp} {S : Store} {c : Addr} {q : Str} (s : SOk K mg T O H S) (h : H c = some (CodeO c q)) : hide O H c = some (CodeO c q) := by
  refine hide_of ?_ h rfl
  rintro (m | m)
  · obtain ⟨n, hn, e⟩ := List.getElem_of_mem m
    obtain ⟨vs, z⟩ := s.at (show O.cs[n]? = some c by rw [List.getElem?_eq_getElem hn, e])
    rw [h] at z
    unfold CodeO at z
    cases z
  · obtain ⟨_, vs, z⟩ := s.own c m
    rw [h] at z
    unfold CodeO at z
    cases z
theorem de_hof {n : Nat} {G : (List D → M D) → List D → M D} {N ps fr : List Str} {js : List Nat} {x : Str} {params : Arguments} {body : Expr} {scope : Scope} {es : List Expr} {fb : BE} {fs : BA} {cc Pt : Addr} {p lpos pos : Pos} (F : HFn X.prog X.w X.K X.mg X.base T (k + 1) x n ps.length G) (c : Cok X E (k + 2)) (hN : X.stack = X.env :: X.outer)
    (TB : TabB X.base X.mg cc Pt) (hcode : X.env.code = .ref cc) (hmT : (Pt, X.env.qual ++ "<lambda>") ∈ T.tabs) (hu : ∀ p ∈ T.tabs, p.1 = Pt → p.2 = X.env.qual ++ "<lambda>") (Sn : NScope N ps fr scope)
    (hfree : ∀ y ∈ scope.names, y.2 = .free → X.env.scope.names.lookup y.1 = some .cell ∨ X.env.scope.names.lookup y.1 = some .free) (hfr : ∀ y ∈ fr, (y, NameKind.free) ∈ scope.names) (hjs : js.map (fun j => X.N[j]?) = fr.map some)
    (hbind : ∀ (q : Str) (cl : List (Str × Addr)) (pm cv ctv : Value) (us : List Value), us.length = ps.length → bindArgs (PySem.W.kla_fn "<lambda>" q params body scope cl pm cv ctv) ⟨us, []⟩ = pure (ps.zip us))
    (hb : ∀ (f c' : Addr) (A : Around) (outer : List Env) (s : Shared) (H : Hp) (E : XK), Cok (ncx (L2N.CX X.prog X.w) X.prog X.w X.K X.mg X.base N ⟨"<lambda>", X.env.qual ++ "<lambda>", params, [], scope, cloFrom X.env.cells scope.names [], c'⟩ f A outer s H E) (fun _ => E) k → DE (ncx (L2N.CX X.prog X.w) X.prog X.w X.K X.mg X.base N ⟨"<lambda>", X.env.qual ++ "<lambda>", params, [], scope, cloFrom X.env.cells scope.names [], c'⟩ f A outer s H E) T (fun _ => E) body fb)
    (ha : DA X T E es fs) (hdef : defaultsOf params X.env = ([], []) := by rfl) (hg : Gl X x := by rfl) (hdb : (x == ("__debug__" : Str)) = false := by decide)
    (h1 : starEach (.Lambda params body scope lpos :: es) X.env = (false, eval (.Lambda params body scope lpos) X.env) :: starEach es X.env := by rfl) (hpl : (backTo pos (starEach es X.env)).any (·.1) = false := by rfl) :
    DE X T E (.Call (.Name x p) (.Lambda params body scope lpos :: es) [] pos) (eHof n N.length js fb G fs) := by
  obtain ⟨fa, fd, psx, hm, hk, hbd, hps, run⟩ := F.ex
  refine ⟨⟨fun pins s σ H Q I h => ?_⟩⟩
  obtain ⟨env, S, O, re, so, q⟩ := h
  refine wpAny_Call_Name_kw (ld_glob I hg hm ?_ hdb)
  refine PySem.W.callWith_K (h₀ := X.base) I.ok.mod.kin hk ?_ h1 hpl
  rw [h1]
  refine Calls.spliced_cons (lam_make2 I TB hcode hmT hu so.tabs hdef (fun y hy e => (hfree y hy e).elim (fun z => I.ok.has _ (.inl z)) fun z => I.ok.has _ (.inr z)) fun f c' pm' ctv H1 s' I1 eN T1 hf hfn hfr' hco => ?_)
  have l1 : Le O H O H1 := Le.ext eN
  have so1 : SOk X.K X.mg T O H1 S := sok_ext so eN T1
  have re1 := re.mono l1
  have hcH := code_hide so1 hco
  have nL : f ≠ X.env.locals := fun z => by
    obtain ⟨m, ⟨ob, es0, ep, ho, hd0, _⟩, _⟩ := I1.loc
    rw [← z, hf] at ho
    cases ho
    cases hd0
  have nS : f ∉ X.fs := fun z => hfr' (by rw [hN]; obtain ⟨e, he, q⟩ := List.mem_filterMap.mp z; exact List.mem_filterMap.mpr ⟨e, List.mem_cons_of_mem _ he, q⟩)
  have I2 : Inv X ((f, PySem.W.kla_obj "<lambda>" (X.env.qual ++ "<lambda>") params body scope (cloFrom X.env.cells scope.names []) pm' c' ctv) :: pins) σ H1 s' := I1.pins_of fun p hp => by
    rcases List.mem_cons.mp hp with e | hp
    · subst e
      exact ⟨hf, hfn, nL, nS, fun v z => by cases z⟩
    · exact I1.pin p (List.mem_append_right _ hp)
  refine thn (ha.pa.run pos _ s' σ H1 (fun vs H2 => ∃ ds S2 O2, Le O H1 O2 H2 ∧ Rps X.K X.mg O2.cs (hide O2 H2) vs ds ∧ SOk X.K X.mg T O2 H2 S2 ∧ Po X.K X.mg T (Rp X.K X.mg) ((if ds.length = n then G (fun as => fb (lamEv N.length js env as)) ds else no : M D) S2) O2 H2 Q (E σ)) I2 ⟨env, S, O, re1, so1, Po.bind (Po.le q l1) fun ds S2 O2 H2 xs l2 s2 r2 q2 => ⟨ds, S2, O2, l2, r2, s2, q2⟩⟩) fun us s2 ⟨vs, H2, I3, rv, ds, S2, O2, l2, rs, so2, q2⟩ => ⟨I3.kIn, ?_⟩
  by_cases hn : ds.length = n
  · rw [if_pos hn] at q2
    have P1 := I3.pin (f, _) (List.mem_append_right _ List.mem_cons_self)
    have I4 : Inv X pins σ H2 s2 := I3.pins_of fun p hp => I3.pin p (List.mem_append_right _ (List.mem_cons_of_mem _ hp))
    have lp := lam_p (T := T) (k := k) (fb := fb) I4 (re1.mono l2) (Caps.made I4.ok hfree hfr hjs) P1.1 P1.2.1 hfr' (l2.same _ _ hcH) Sn (hbind _ _ _ _ _) (fun A outer s H E hc => hb f c' A outer s H E hc)
    have b := hbd s2 (.ref f :: us) I3.kIn (by rw [List.append_nil, List.length_cons, ← rv.length, rs.length, hn, hps])
    rw [List.append_nil] at b
    refine wpAny_call (codeAny_mono (run X.A X.stack s2 H2 f _ O2 S2 us vs ds Q (E σ) ⟨.ref f :: us, []⟩ c.room I4.env0 lp b rv hn rs so2 q2) fun r s3 hq => ?_)
    cases r with
    | error e => exact c.pass σ pins H2 s2 e s3 I4 hq
    | ok fl =>
      cases fl with
      | ret u => exact I4.after hq
      | next => exact False.elim hq
      | brk => exact False.elim hq
      | cont => exact False.elim hq
  · rw [if_neg hn] at q2
    exact q2.elim
end
end Z
end
section
set_option maxHeartbeats 4000000
/-! Chains of comparisons, sorted ints, a tuple backwards, a def out of a variable, powers, sequences times a number. -/
namespace Z
open PySem PySem.Spec PyProof.Rows L2

section
variable {X : Cx} {T : Tb} {E : XKs} {k j : Nat}
/-! ### a < b < c -/
def chn (f3 : BE) (g' : D → D → M D) (b : D) (env : Ev) : D → M D
  | .bool true => f3 env >>= fun c => g' b c
  | .bool false => pure (.bool false)
  | _ => no
def eChain (g g' : D → D → M D) (f1 f2 f3 : BE) : BE := fun env => f1 env >>= fun a => f2 env >>= fun b => g a b >>= fun z => chn f3 g' b env z
theorem t_chain {r r' : R2} {g g' : D → D → M D} {f1 f2 f3 : BE} (h : Op2 X T r g) (h' : Op2 X T r' g') : ∀ σ H Q, tD X.K X.mg T E (eChain g g' f1 f2 f3) σ H Q → tChain r r' (tD X.K X.mg T E f1) (tD X.K X.mg T E f2) (tD X.K X.mg T E f3) σ H Q := fun σ H Q ⟨env, S, O, re, so, q⟩ =>
  ⟨env, S, O, re, so, Po.bind q fun a S1 O1 H1 x l s1 r1 q1 => ⟨env, S1, O1, re.mono l, s1, Po.bind q1 fun b S2 O2 H2 y l2 s2 r2 q2 =>
    h O2 H2 S2 x y a b _ _ s2 (r1.le l2) r2 (Po.bind q2 fun z S3 O3 H3 v l3 s3 r3 q3 => by
      unfold chn at q3
      split at q3
      · cases r3
        refine ⟨true, rfl, ?_⟩
        rw [if_pos rfl]
        exact ⟨env, S3, O3, (re.mono l).mono (l2.trans l3), s3, Po.bind q3 fun c S4 O4 H4 w l4 s4 r4 q4 => h' O4 H4 S4 y w b c Q _ s4 (r2.le (l3.trans l4)) r4 q4⟩
      · cases r3
        refine ⟨false, rfl, ?_⟩
        rw [if_neg (by decide)]
        exact q3 O3 H3 _ Le.refl s3 (.bl false)
      · exact q3.elim)⟩⟩
theorem de_chain {op op' : CmpOp} {r r' : R2} {g g' : D → D → M D} {a b c : Expr} {f1 f2 f3 : BE} {pos : Pos} (ho : OpR X (compareOp op) r) (ho' : OpR X (compareOp op') r') (h : Op2 X T r g) (h' : Op2 X T r' g') (ha : DE X T E a f1) (hb : DE X T E b f2) (hc : DE X T E c f3)
    (hm : lastMarks [op, op'] [b, c] = false := by with_unfolding_all rfl) : DE X T E (.Compare a [op, op'] [b, c] pos) (eChain g g' f1 f2 f3) :=
  ⟨(pe_chain ho ho' ha.pe hb.pe hc.pe hm).monoZ (t_chain h h')⟩
theorem dt_chain {op op' : CmpOp} {r r' : R2} {g g' : D → D → M D} {a b c : Expr} {f1 f2 f3 : BE} {pos : Pos} (ho : OpR X (compareOp op) r) (ho' : OpR X (compareOp op') r') (h : Op2 X T r g) (h' : Op2 X T r' g') (ha : DE X T E a f1) (hb : DE X T E b f2) (hc : DE X T E c f3)
    (hm : lastMarks [op, op'] [b, c] = false := by with_unfolding_all rfl) : DT X T E (.Compare a [op, op'] [b, c] pos) (tB1 (eChain g g' f1 f2 f3)) :=
  ⟨(pt_chain ho ho' ha.pe hb.pe hc.pe hm).monoZ fun σ H Q ⟨env, S, O, re, so, q⟩ => t_chain h h' σ H _ ⟨env, S, O, re, so, Po.bind q fun a S1 O1 H1 x l s1 r1 q1 => by
    cases r1 with
    | bl b => exact ⟨b, rfl, q1 O1 H1 b Le.refl s1 rfl⟩
    | _ => exact q1.elim⟩⟩

/-! ### powers; sequences times a number -/
def gPow (a b : D) : M D := match a, b with
  | .int i, .int j => if 0 ≤ j ∧ j ≤ 1000000 ∧ i.natAbs < 2 ^ 64 then pure (.int (i ^ j.toNat)) else no
  | _, _ => no
theorem s_pow : OpS X T (rI CPow fun i j => .int (i ^ j.toNat)) gPow := fun O H S x y a b Q E so sa sb q => by
  unfold gPow at q
  split at q
  · rename_i i j
    split at q
    · rename_i h
      obtain rfl := sa.int
      obtain rfl := sb.int
      exact ⟨i, j, rfl, rfl, h, q O H _ Le.refl so (.int _)⟩
    · exact q.elim
  · exact q.elim
theorem rep_rps {K : PySem.W.Frag} {mg : Str → Option Value} {O : List Addr} {G : Hp} {ds : List D} {vs : List V} (t : Rps K mg O G vs ds) : ∀ n : Nat, Rps K mg O G (List.replicate n vs).flatten (List.replicate n ds).flatten
  | 0 => .nil
  | n + 1 => by
    rw [List.replicate_succ, List.replicate_succ, List.flatten_cons, List.flatten_cons]
    exact t.app (rep_rps t n)
def gRep (a b : D) : M D := match a, b with
  | .tuple xs, .int k => if xs ≠ [] ∧ 2 ≤ k ∧ k ≤ 1000 ∧ xs.length ≤ 1000 then pure (.tuple (List.replicate k.toNat xs).flatten) else no
  | .list xs, .int k => if -1000 ≤ k ∧ k ≤ 1000 ∧ xs.length ≤ 1000 then pure (.list (List.replicate k.toNat xs).flatten) else no
  | _, _ => no
theorem op_rep2 : OpR X (binaryOp .Mult) (fun x y H Q => rRepT X.K x y H Q ∨ rRep x y H Q) := OpR.or op_repT op_rep
theorem s_rep : OpS X T (fun x y H Q => rRepT X.K x y H Q ∨ rRep x y H Q) gRep := fun O H S x y a b Q E so sa sb q => by
  unfold gRep at q
  split at q
  · rename_i xs i
    split at q
    · rename_i h
      obtain rfl := sb.int
      obtain ⟨p, vs, rfl, h1, t, _⟩ := sa.tuple
      exact .inl ⟨p, i, vs, rfl, rfl, h1, fun z => h.1 (by have := t.length; rw [z] at this; exact List.length_eq_zero_iff.mp this.symm), h.2.1, h.2.2.1, by rw [t.length]; exact h.2.2.2, new_tup so (rep_rps t _) q⟩
    · exact q.elim
  · rename_i xs i
    split at q
    · rename_i h
      obtain rfl := sb.int
      obtain ⟨p, vs, rfl, h1, t⟩ := sa.list
      refine .inr ⟨p, i, vs, rfl, rfl, h1, by omega, by omega, ?_, new_lst so (rep_rps t _) q⟩
      have h3 : vs.length ≤ 1000 := by rw [t.length]; exact h.2.2
      have h4 : i.toNat ≤ 1000 := by omega
      have := Nat.mul_le_mul h3 h4
      rw [sizeLine_eq]
      omega
    · exact q.elim
  · exact q.elim

/-! ### sorted ints -/
def intsD : List D → Option (List Int)
  | [] => some []
  | .int b :: xs => (intsD xs).map (b :: ·)
  | _ => none
theorem intsD_rp {K : PySem.W.Frag} {mg : Str → Option Value} {O : List Addr} {G : Hp} : ∀ {ds : List D} {vs : List V} {bs : List Int}, Rps K mg O G vs ds → intsD ds = some bs → vs = bs.map V.int
  | _, _, _, .nil, e => by cases e; rfl
  | _, _, _, .cons (d := d) r t, e => by
    cases r with
    | int b =>
      rw [intsD] at e
      obtain ⟨bs', h, rfl⟩ := Option.map_eq_some_iff.mp e
      rw [intsD_rp t h]
      rfl
    | _ => simp [intsD] at e
theorem rps_int {K : PySem.W.Frag} {mg : Str → Option Value} {O : List Addr} {G : Hp} : ∀ ys : List Int, Rps K mg O G (ys.map V.int) (ys.map D.int)
  | [] => .nil
  | y :: ys => .cons (.int y) (rps_int ys)
def sortI (ns : List Int) : List Int := ns.mergeSort fun x y => decide (x ≤ y)
theorem sortI_perm (ns : List Int) : (sortI ns).Perm ns := List.mergeSort_perm _ _
theorem sortI_sorted (ns : List Int) : (sortI ns).Pairwise (· ≤ ·) := by
  have := List.pairwise_mergeSort (le := fun (x y : Int) => decide (x ≤ y)) (fun x y z h1 h2 => by simp at *; omega) (fun x y => by simp; omega) ns
  simpa [sortI] using this
theorem sortI_uniq {a ns : List Int} (h : a.Perm ns) (s : a.Pairwise (· ≤ ·)) : a = sortI ns :=
  (h.trans (sortI_perm ns).symm).eq_of_pairwise (fun x y _ _ p q => by omega) s (sortI_sorted ns)
def gSorted (a : D) : M D := match a with
  | .list ds => ofO ((intsD ds).map fun ns => .list ((sortI ns).map .int))
  | _ => no
theorem d_sorted : CallD X T (rSortedI X.K) (c1 gSorted) := cd1 fun O H S x a Q E so sa q => by
  unfold gSorted at q
  split at q
  · obtain ⟨d, h, q1⟩ := po_ofO q
    obtain ⟨ns, hb, rfl⟩ := Option.map_eq_some_iff.mp h
    obtain ⟨p, vs, rfl, h1, t⟩ := sa.list
    have e := intsD_rp t hb
    subst e
    refine ⟨_, _, rfl, .inl (.inl h1), fun ns' l hp hs hl => ?_⟩
    obtain rfl := sortI_uniq hp hs
    exact new_lst so (rps_int _) q1 l hl
  · exact q.elim
end
end Z
end
section
set_option maxHeartbeats 4000000
/-! A tuple backwards; a def out of a variable. -/
namespace Z
open PySem PySem.Spec PyProof.Rows L2

section
variable {prog : Program} {w : World} {A : Around} {E : Value → Shared → Prop} {s : Shared}
theorem applied_back {sl : Addr} {vl vu vs : Value} {n : Nat} {Q : Int × Int × Nat → Shared → Prop} (hs : s.heap.IsSliceOf sl vl vu vs) (pl : IsPart vl none) (pu : IsPart vu none) (ps : IsPart vs (some (-1)))
    (h : Q ((n : Int) - 1, -1, n) s) : wpAny (model prog w) A (Builtin.Slice.sliceApplied (.ref sl) (pure (n : Int))) Q E s := by
  obtain ⟨os, hos, hcs, hds⟩ := id hs
  unfold Builtin.Slice.sliceApplied Builtin.Slice.sliceFields
  refine wpAny_bind (wpAny_bind (wpAny_field hos hds (x := vl) rfl (wpAny_bind (wpAny_field hos hds (x := vu) rfl (wpAny_bind (wpAny_field hos hds (x := vs) rfl (wpAny_pure ?_)))))))
  refine wpAny_bind (HT.slicePart_ ps ?_)
  show wpAny _ _ (if ((-1 : Int) == 0) = true then _ else _) _ _ s
  rw [if_neg (by decide)]
  refine wpAny_bind (HT.slicePart_ pl (wpAny_bind (HT.slicePart_ pu (wpAny_bind (wpAny_pure ?_)))))
  have e1 : Builtin.Slice.sliceAdjust none none (-1) (n : Int) = ((n : Int) - 1, -1) := by
    unfold Builtin.Slice.sliceAdjust
    simp
  have e2 : Builtin.Slice.slicePlaces ((n : Int) - 1) (-1) (-1) = n := by
    unfold Builtin.Slice.slicePlaces
    simp
    omega
  show wpAny _ _ (match Builtin.Slice.sliceAdjust none none (-1) (n : Int) with | (lo, hi) => pure (lo, (-1 : Int), Builtin.Slice.slicePlaces lo hi (-1))) _ _ s
  rw [e1]
  show wpAny _ _ (pure ((n : Int) - 1, (-1 : Int), Builtin.Slice.slicePlaces ((n : Int) - 1) (-1) (-1))) _ _ s
  rw [e2]
  exact wpAny_pure h
theorem fm_some {α β : Type} {f : α → Option β} {g : α → β} : ∀ {l : List α}, (∀ a ∈ l, f a = some (g a)) → l.filterMap f = l.map g
  | [], _ => rfl
  | a :: l, h => by
    rw [List.filterMap_cons, h a (by simp), List.map_cons, fm_some fun b hb => h b (List.mem_cons_of_mem _ hb)]
theorem pick_back (xs : Array Value) : ((List.range xs.size).filterMap fun (m : Nat) => xs[((xs.size : Int) - 1 + (m : Int) * (-1)).toNat]?).toArray = xs.toList.reverse.toArray := by
  congr 1
  have e : ∀ m ∈ List.range xs.size, (fun (m : Nat) => xs[((xs.size : Int) - 1 + (m : Int) * (-1)).toNat]?) m = some ((fun m => xs.toList.reverse.getD m .none) m) := fun m hm => by
    have hm := List.mem_range.mp hm
    have e1 : ((xs.size : Int) - 1 + (m : Int) * (-1)).toNat = xs.size - 1 - m := by omega
    simp only [e1]
    rw [List.getD_eq_getElem?_getD, List.getElem?_reverse (by simpa using hm), Array.getElem?_toList, Array.length_toList]
    rw [Array.getElem?_eq_getElem (by omega)]
    rfl
  rw [fm_some e]
  apply List.ext_getElem?
  intro i
  by_cases hi : i < xs.size
  · rw [List.getElem?_map, List.getElem?_range hi]
    simp only [Option.map_some]
    rw [List.getD_eq_getElem?_getD, List.getElem?_eq_getElem (by simpa using hi)]
    rfl
  · rw [List.getElem?_eq_none (by simpa using hi), List.getElem?_eq_none (by simpa using hi)]
theorem getItem_tuple_back {t sl : Addr} {items : Array Value} {vl vu vs : Value} {Q : Value → Shared → Prop} (ht : IsTup s.heap t items) (hs : s.heap.IsSliceOf sl vl vu vs) (pl : IsPart vl none) (pu : IsPart vu none) (ps : IsPart vs (some (-1)))
    (h : Q (.ref s.heap.objs.size) { s with heap := s.heap.push { cls := .type "tuple", data := .seq items.toList.reverse.toArray } }) (hsz : items.size ≤ sizeLine) : wpAny (model prog w) A (getItem (.ref t) (.ref sl)) Q E s := by
  have htake : sizeOk (.seq items.toList.reverse.toArray) := by
    show items.toList.reverse.toArray.size ≤ sizeLine
    simpa using hsz
  obtain ⟨os, hos, hcs, hds⟩ := id hs
  have hTs : s.TypeIs (.ref sl) "slice" := ⟨os, hos, hcs⟩
  unfold getItem
  try with_reducible refine wpAny_holding ?_
  first | refine wpAny_bind (wpAny_pure ?_) | skip
  refine wpAny_bind (wpAny_sequenceKey ht.typeIs (by decide) ?_)
  refine wpAny_bind (wpAny_callSpecial?_slot (name := Str.ofString "__getitem__") ht.typeIs PyProof.Rows.slot_tuple_getitem
    (wpAny_call_entry PyProof.Rows.slot_tuple_getitem ht.typeIs entry_tuple_getitem ?_ (args_tuple_getitem _ _)))
  show wpAny _ _ (Builtin.Tuple.tupleItemsOf (.ref t) >>= _) _ _ s
  refine wpAny_bind (tupleItemsOf_ ht ?_)
  refine wpAny_bind (wpAny_typeOf hTs ?_)
  rw [if_pos (by decide)]
  refine wpAny_bind (applied_back hs pl pu ps ?_)
  have hno : ¬ ((((items.size : Int) - 1) == 0 && (-1 : Int) == 1 && items.size == items.size) = true) := by
    intro q
    rw [Bool.and_eq_true, Bool.and_eq_true] at q
    exact absurd q.1.2 (by decide)
  show wpAny _ _ (if ((((items.size : Int) - 1) == 0 && (-1 : Int) == 1 && items.size == items.size) = true) then _ else _) _ _ s
  rw [if_neg hno, pick_back]
  first
    | exact wpAny_bind (m := Builtin.Tuple.tupleExact _) (wpAny_newObj_type (wpAny_pure ⟨_, rfl, wpAny_pure h⟩) htake)
    | exact wpAny_bind (m := Builtin.Tuple.tupleExact _) (wpAny_newObj_type (wpAny_bind (wpAny_pure (wpAny_pure ⟨_, rfl, wpAny_pure h⟩))) htake)
    | exact wpAny_bind (wpAny_bind (m := Builtin.Tuple.tupleExact _) (wpAny_newObj_type (wpAny_pure (wpAny_pure ⟨_, rfl, wpAny_pure h⟩)) htake))
    | exact wpAny_bind (wpAny_bind (m := Builtin.Tuple.tupleExact _) (wpAny_newObj_type (wpAny_pure ⟨_, rfl, wpAny_pure h⟩) htake))
end
section
variable {X : Cx} {T : Tb} {E : XKs} {k j : Nat}
def tRevT (K : PySem.W.Frag) (te : TE) : TE := fun σ H Q => te σ H fun x H1 => ∃ a xs, x = .ref a ∧ SqT K H1 a xs ∧ ∀ p, H1 p = none → Q (.ref p) (upd H1 p (.tup xs.reverse))
theorem pe_revT {e : Expr} {te : TE} {k : Nat} {p1 p2 p3 pos : Pos} (he : PE X e te) : PE X (.Subscript e (.Slice none none (some (.UnaryOp .USub (.Constant (.int 1) k p1) p2)) p3) pos) (tRevT X.K te) := by
  refine ⟨fun pins s σ H Q I h => ?_⟩
  refine Subscript_ (thn (he.run pins s σ H _ I h) fun v s1 ⟨x, H1, I1, r1, a, xs, ex, hx, q⟩ => ?_)
  subst ex
  cases r1
  have hst : PO X (some (.UnaryOp .USub (.Constant (.int 1) k p1) p2)) (tPart (tUn (rU fun i => .int (-i)) (tC (.int 1)))) := po_some (pe_un un_neg pe_int)
  refine wpAny_Slice (thn (po_none.run pins s1 σ H1 (fun o H2 => o = none ∧ H2 = H1) I1 ⟨rfl, rfl⟩) fun vl s2 ⟨l, H2, I2, pl, el, e2⟩ => ?_)
  subst el e2
  refine thn (po_none.run pins s2 σ H2 (fun o H3 => o = none ∧ H3 = H2) I2 ⟨rfl, rfl⟩) fun vu s3 ⟨u, H3, I3, pu, eu, e3⟩ => ?_
  subst eu e3
  refine thn (hst.run pins s3 σ H3 (fun o H4 => o = some (-1) ∧ H4 = H3) I3 ⟨1, rfl, -1, rfl, rfl, rfl⟩) fun vs s4 ⟨o, H4, I4, ps, eo, e4⟩ => ?_
  subst eo e4
  have I5 : Inv X pins σ H4 { s4 with heap := s4.heap.push { cls := .type "slice", data := .fields #[vl, vu, vs] } } := I4.kept (t' := s4.toks) fun b ob q => Heap.get?_push_of_some _ q
  obtain ⟨its, r, ht, hz⟩ := I5.tuple hx
  have hlen := r.length
  show wpAny (model X.prog X.w) X.A (subscriptTail e (.Slice none none (some (.UnaryOp .USub (.Constant (.int 1) k p1) p2)) p3) (.ref a) (.ref s4.heap.objs.size)) (EP X pins σ Q) X.xe { s4 with heap := s4.heap.push { cls := .type "slice", data := .fields #[vl, vu, vs] } }
  refine tail_any (ops := [.ref a, .ref s4.heap.objs.size]) ht.typeIs (PyProof.Rows.slot_tuple_getitem.lookup) ?_ (by with_unfolding_all rfl)
  refine getItem_tuple_back ht (Heap.IsSliceOf.new _ vl vu vs) pl pu ps ?_ (by rw [List.size_toArray]; omega)
  refine ⟨.ref _, _, I5.laid (t' := s4.toks) (o := .tup xs.reverse) (fun b ob q => Heap.get?_push_of_some _ q) (Nat.le_refl _) ?_, rfl, q _ (I5.hok.fresh (Nat.le_refl _))⟩
  exact ⟨by rw [List.length_reverse]; exact hz, _, r.reverse, IsTup.new _ _⟩
def gRevT (a : D) : M D := match a with
  | .tuple xs => pure (.tuple xs.reverse)
  | _ => no
theorem de_revT {e : Expr} {f : BE} {k : Nat} {p1 p2 p3 pos : Pos} (he : DE X T E e f) : DE X T E (.Subscript e (.Slice none none (some (.UnaryOp .USub (.Constant (.int 1) k p1) p2)) p3) pos) (e1 gRevT f) :=
  ⟨(pe_revT he.pe).monoZ fun σ H Q ⟨env, S, O, re, so, q⟩ => ⟨env, S, O, re, so, Po.bind q fun a S1 O1 H1 x l s1 r1 q1 => by
    unfold gRevT at q1
    cases r1 with
    | tup h t => exact ⟨_, _, rfl, st_le h, new_tup s1 t.rev q1⟩
    | _ => exact q1.elim⟩⟩

/-! ### a def out of a variable -/
abbrev FTab := List (Str × Nat × (List D → M D))
def look (t : FTab) (d : D) : M (Nat × (List D → M D)) := match d with
  | .fn x => ofO (t.lookup x)
  | _ => no
def eCallF (t : FTab) (v : BE) (fs : BA) : BE := fun env => v env >>= fun d => look t d >>= fun p => fs env >>= fun as => if as.length = p.1 then p.2 as else no
theorem de_callF {t : FTab} {a : Str} {v : BE} {e : Expr} {es : List Expr} {fs : BA} {p pos : Pos} (F : ∀ x n g, t.lookup x = some (n, g) → Fn X.prog X.w X.K X.mg X.base T j x n g) (c : Cok X E k) (hv : DE X T E (.Name a p) v) (ha : DA X T E (e :: es) fs) (hj : j ≤ k := by decide)
    (he : starEach (e :: es) X.env = (false, eval e X.env) :: starEach es X.env := by rfl) (hpl : (backTo pos (starEach es X.env)).any (·.1) = false := by rfl) :
    DE X T E (.Call (.Name a p) (e :: es) [] pos) (eCallF t v fs) := by
  refine ⟨⟨fun pins s σ H Q I h => ?_⟩⟩
  obtain ⟨env, S, O, re, so, q⟩ := h
  refine wpAny_Call_Name_kw (thn (hv.pe.run pins s σ H (fun x H1 => ∃ y n g fa, t.lookup y = some (n, g) ∧ X.mg y = some (.ref fa) ∧ x = .ref fa ∧ ∃ O1 S1, Le O H O1 H1 ∧ SOk X.K X.mg T O1 H1 S1 ∧ Po X.K X.mg T (Rp X.K X.mg) ((fs env >>= fun as => if as.length = n then g as else no) S1) O1 H1 Q (E σ)) I ⟨env, S, O, re, so, Po.bind q fun d S1 O1 H1 x l s1 r1 q1 => ?_⟩) fun u s1 ⟨x, H1, I1, r1, y, n, g, fa, hy, hm, ev, O1, S1, l, so1, q1⟩ => ?_)
  · unfold look at q1
    cases r1 with
    | fn hm =>
      rename_i fa y
      dsimp only at q1
      cases hy : t.lookup y with
      | none => rw [hy] at q1; exact q1.elim
      | some z =>
        obtain ⟨n, g⟩ := z
        rw [hy] at q1
        exact ⟨y, n, g, fa, hy, hm, rfl, O1, S1, l, s1, q1⟩
    | _ => exact q1.elim
  · subst ev
    obtain rfl : u = Value.ref fa := r1
    obtain ⟨fa', fd, ps, h1, h2, h3, h4, h5⟩ := (F y n g hy).ex
    obtain rfl : fa' = fa := by rw [hm] at h1; cases h1; rfl
    refine PySem.W.callWith_K (h₀ := X.base) I.ok.mod.kin h2 (thn (ha.pa.run pos pins s1 σ H1 (fun vs H2 => ∃ as S2 O2, Rps X.K X.mg O2.cs (hide O2 H2) vs as ∧ SOk X.K X.mg T O2 H2 S2 ∧ Po X.K X.mg T (Rp X.K X.mg) ((if as.length = n then g as else no : M D) S2) O2 H2 Q (E σ)) I1 ⟨env, S1, O1, re.mono l, so1, Po.bind q1 fun as S2 O2 H2 xs l2 s2 r2 q2 => ⟨as, S2, O2, r2, s2, q2⟩⟩) fun us s2 ⟨vs, H2, I2, r2, as, S2, O2, rs, so2, q2⟩ => ⟨I2.kIn, ?_⟩) he hpl
    by_cases hn : as.length = n
    · rw [if_pos hn] at q2
      have b := h3 s2 us I2.kIn (by rw [List.append_nil, ← r2.length, rs.length, hn, h4])
      rw [List.append_nil] at b
      refine wpAny_call (codeAny_mono (h5.run X.A X.stack s2 H2 ⟨us, []⟩ us vs Q (E σ) (c.room.mono hj) I2.env0 b r2 ⟨as, S2, O2, hn, rs, so2, q2⟩) fun r s' hq => ?_)
      cases r with
      | error e => exact c.pass σ pins H2 s2 e s' I2 hq
      | ok fl =>
        cases fl with
        | ret u => exact I2.after hq
        | next => exact False.elim hq
        | brk => exact False.elim hq
        | cont => exact False.elim hq
    · rw [if_neg hn] at q2
      exact q2.elim
end
end Z
end
section
set_option maxHeartbeats 4000000
/-! What the printed derivations lean on. -/
namespace Z
open PySem PySem.Spec PyProof.Rows L2

/-- a def of the module, all its parameters given -/
structure DefOk (K : PySem.W.Frag) (mg : Str → Option Value) (x : Str) (st : Stmt) (ps : List Str) : Prop where
  ex : ∃ f fd, L2.Fun K x x st f fd ∧ mg x = some (.ref f) ∧ Binds K fd ps []
section
variable {X : Cx} {T : Tb} {E : XKs} {k j : Nat}
theorem de_fnF {x : Str} {n : Nat} {g : List D → M D} {pos : Pos} (F : Fn X.prog X.w X.K X.mg X.base T j x n g) (hg : Gl X x := by rfl) (hd : (x == ("__debug__" : Str)) = false := by decide) : DE X T E (.Name x pos) (eC (.fn x)) := by
  obtain ⟨f, fd, ps, h1, _⟩ := F.ex
  exact de_fn hg h1 hd
theorem de_glI {x : Str} {i : Int} {pos : Pos} (hm : ∃ t, X.mg x = some (.int i t)) (hg : Gl X x := by rfl) (hd : (x == ("__debug__" : Str)) = false := by decide) : DE X T E (.Name x pos) (eC (.int i)) := by
  obtain ⟨t, h⟩ := hm
  exact de_const (pe_glob (v := .int i) hg h ⟨t, rfl⟩ hd) fun _ _ => .int i
/-- a, b, c = x, y, z of plain locals -/
def sPar3 (i j l : Nat) (f g h : BE) : BS := fun env S => thenS (f env S) env fun a S1 => thenS (g env S1) env fun b S2 => thenS (h env S2) env fun c S3 => .next (((env.set i (some a)).set j (some b)).set l (some c)) S3
theorem ds_par3 (i j l : Nat) {x y z : Str} {a b c : Expr} {f g h : BE} {px py pz pt pos : Pos} {kt k2 pt2} (hc : X.calm = true) (hN : X.N.Nodup) (ha : DE X T E a f) (hb : DE X T E b g) (hcc : DE X T E c h)
    (hi : X.N[i]? = some x := by rfl) (hj : X.N[j]? = some y := by rfl) (hl : X.N[l]? = some z := by rfl) (hij : i ≠ j := by decide) (hil : i ≠ l := by decide) (hjl : j ≠ l := by decide)
    (hx : X.env.scope.names.lookup x = some .local := by rfl) (hy : X.env.scope.names.lookup y = some .local := by rfl) (hz : X.env.scope.names.lookup z = some .local := by rfl)
    (hw : swappedStores [.Tuple [.Name x px, .Name y py, .Name z pz] kt pt] (.Tuple [a, b, c] k2 pt2) X.env = pure (some [x, y, z]) := by rfl)
    (hs : swapsWithSole [.Tuple [.Name x px, .Name y py, .Name z pz] kt pt] (.Tuple [a, b, c] k2 pt2) pos.line X.env = pure false := by rfl)
    (h1 : starEach [a, b, c] X.env = (false, eval a X.env) :: starEach [b, c] X.env := by rfl) (h2 : starEach [b, c] X.env = (false, eval b X.env) :: starEach [c] X.env := by rfl) (h3 : starEach [c] X.env = [(false, eval c X.env)] := by rfl) :
    DS X T E (.Assign [.Tuple [.Name x px, .Name y py, .Name z pz] kt pt] (.Tuple [a, b, c] k2 pt2) pos) (sPar3 i j l f g h) :=
  ⟨(ps_par3 hc hN hi hj hl hij hil hjl hx hy hz (da_cons ha (da_cons hb (da_cons hcc da_nil (by rw [h3]; rfl)) h2) h1).pa hw hs).monoZ fun Dn σ H ⟨env, S, O, re, so, q⟩ => ⟨env, S, O, re, so, by
    unfold sPar3 at q
    show Po _ _ _ _ ((f env >>= fun a => (g env >>= fun b => (h env >>= fun c => pure [c]) >>= fun as => pure (b :: as)) >>= fun as => pure (a :: as)) S) O H _ _
    rw [bd_ap]
    cases e1 : f env S with
    | err c S1 =>
      rw [e1] at q
      exact fun O1 H1 C l s e => q O1 H1 σ C l s (re.mono l) e
    | no => rw [e1] at q; exact q
    | ok a S1 =>
      rw [e1] at q
      dsimp only [thenS] at q ⊢
      rw [bd_ap, bd_ap]
      cases e2 : g env S1 with
      | err c S2 =>
        rw [e2] at q
        exact fun O1 H1 C l s e => q O1 H1 σ C l s (re.mono l) e
      | no => rw [e2] at q; exact q
      | ok b S2 =>
        rw [e2] at q
        dsimp only [thenS] at q ⊢
        rw [bd_ap, bd_ap]
        cases e3 : h env S2 with
        | err c S2 =>
          rw [e3] at q
          exact fun O1 H1 C l s e => q O1 H1 σ C l s (re.mono l) e
        | no => rw [e3] at q; exact q
        | ok c S3 =>
          rw [e3] at q
          dsimp only [pure_ap] at q ⊢
          intro O1 H1 vs l s r
          cases r with
          | cons r1 r2 =>
            cases r2 with
            | cons r2 r3 =>
              cases r3 with
              | cons r3 r4 =>
                cases r4
                exact ⟨_, _, _, rfl, q O1 H1 _ l s ((((re.mono l).set r1).set r2).set r3)⟩⟩⟩
end
/-- the same; its code object told, too -/
structure DefC (K : PySem.W.Frag) (mg : Str → Option Value) (x : Str) (st : Stmt) (ps : List Str) (cc : Addr) : Prop where
  ex : ∃ f fd, L2.Fun K x x st f fd ∧ mg x = some (.ref f) ∧ Binds K fd ps [] ∧ fd.code = .ref cc
theorem roomH_mark {A : Around} {k : Nat} {a : Addr} (r : Room k A) : L2H.RoomH k (A.mark (some (.ref a))) := ⟨r.dp, r.un⟩
/-- what is answered for an error of the class c -/
def wdE (c : Str) : Str :=
  if c = "InvalidHall" then "hall" else if c = "InvalidRay" then "ray" else if c = "InvalidWord" then "word" else if c = "InvalidWall" then "wall" else if c = "InvalidPaper" then "paper" else
  if c = "InvalidFacts" then "facts" else if c = "InvalidDeed" then "deed" else if c = "InvalidText" then "text" else if c = "Unlike" then "unlike" else "undo"
/-- the text of the error that a call raises -/
def G_err (cs : List Str) (h0 : D → D) (h : Str → D) (g : List D → M D) (_ : List D) : M D := fun S => match g [] S with
  | .ok d S' => .ok (h0 d) S'
  | .err c S' => if c ∈ cs then .ok (h c) S' else .no
  | .no => .no
theorem fn_zero {P : Program} {w : World} {K : PySem.W.Frag} {mg : Str → Option Value} {base : Heap} {T : Tb} {k : Nat} {x : Str} {st : Stmt} {N ps : List Str} (h : ∃ f fd, L2.Fun K x x st f fd ∧ mg x = some (.ref f) ∧ Binds K fd ps []) (S : FnScope N ps (defScope st)) : Fn P w K mg base T k x ps.length (fun _ => no) := by
  obtain ⟨f, fd, F, hm, hb⟩ := h
  refine ⟨f, fd, ps, hm, F.kp, hb, rfl, ?_⟩
  constructor
  · intro vs H Q E h
    obtain ⟨ds, S, O, e, r, _, _⟩ := h
    rw [r.length, e]
  · intros
    rename_i h
    obtain ⟨_, _, _, _, _, _, q⟩ := h
    exact q.elim
theorem bt_len : bootBuiltins "len" = some (.builtin "len") := by decide +kernel
theorem bt_abs : bootBuiltins "abs" = some (.builtin "abs") := by decide +kernel
theorem bt_max : bootBuiltins "max" = some (.builtin "max") := by decide +kernel
theorem bt_min : bootBuiltins "min" = some (.builtin "min") := by decide +kernel
theorem bt_all : bootBuiltins "all" = some (.builtin "all") := by decide +kernel
theorem bt_any : bootBuiltins "any" = some (.builtin "any") := by decide +kernel
theorem bt_sorted : bootBuiltins "sorted" = some (.builtin "sorted") := by decide +kernel
theorem bt_isinstance : bootBuiltins "isinstance" = some (.builtin "isinstance") := by decide +kernel
theorem bt_int : bootBuiltins "int" = some (.type "int") := by decide +kernel
theorem bt_bool : bootBuiltins "bool" = some (.type "bool") := by decide +kernel
theorem bt_str : bootBuiltins "str" = some (.type "str") := by decide +kernel
theorem bt_list : bootBuiltins "list" = some (.type "list") := by decide +kernel
theorem bt_tuple : bootBuiltins "tuple" = some (.type "tuple") := by decide +kernel
theorem bt_ValueError : bootBuiltins "ValueError" = some (.type "ValueError") := by decide +kernel
end Z
end
section
set_option maxHeartbeats 4000000
/-! The facts out of the head; the law's end. -/
namespace Z
open PySem PySem.Spec PyProof.Rows L2

section
variable {K : PySem.W.Frag} {mg : Str → Option Value} {x : Str} {st : Stmt} {ps : List Str} {f : Addr} {fd : FuncData}
theorem fun_of (F : FunD K x x (defArgs st) (defBody st) (defScope st) [] [] f fd) : L2.Fun K x x st f fd := by
  obtain ⟨oc, od, dV, kV, doc, pm, an, cdv, ct, osl, rfl, lk, hcd, hD, hK⟩ := F.ex
  rcases hD with ⟨_, rfl⟩ | ⟨e, _⟩
  · exact ⟨⟨oc, od, kV, doc, pm, an, cdv, ct, osl, rfl, lk, hcd⟩, F.kp⟩
  · exact absurd rfl e
abbrev BindEq (x : Str) (st : Stmt) (ps : List Str) : Prop := ∀ (kV doc pm : Value) (an : Option Addr) (cdv ct : Value) (us : List Value), us.length = ps.length → bindArgs (PySem.W.fnOf x x (defArgs st) (defBody st) (defScope st) .none kV doc pm an cdv ct) ⟨us, []⟩ = pure (ps.zip us)
theorem defok_of (hm : mg x = some (.ref f)) (F : ∃ fd, FunD K x x (defArgs st) (defBody st) (defScope st) [] [] f fd) (hb : BindEq x st ps) : DefOk K mg x st ps := by
  obtain ⟨fd, F⟩ := F
  exact ⟨f, fd, fun_of F, hm, F.bindsN hb⟩
/-! ### the own errors -/
def excCB (K : PySem.W.Frag) (D : Addr) : Bool :=
  decide (PySem.W.findIn K (.ref D) "__getattribute__" = some (some (.builtin "BaseException.__getattribute__"))) && decide (PySem.W.findIn K (.ref D) "__getattr__" = some none) && decide (PySem.W.subIn K (.ref D) (.type "BaseException") = some true) && PySem.W.hasDictIn K D &&
  decide (PySem.W.findIn K (.ref D) "__class__" = some (some (.builtin "object.__class__"))) && decide (PySem.W.specialIn K (.builtin "object.__class__") "__get__" = some (some (.builtin "getset_descriptor.__get__"))) && decide (PySem.W.takesIn K (.builtin "object.__class__") = some true) && decide (PySem.W.mroIn K D (.type "object") = some true)
theorem excC_of {D : Addr} (h : excCB K D = true) : ExcC K D := by
  unfold excCB at h
  simp only [Bool.and_eq_true, decide_eq_true_eq] at h
  obtain ⟨⟨⟨⟨⟨⟨⟨h1, h2⟩, h3⟩, h4⟩, h5⟩, h6⟩, h7⟩, h8⟩ := h
  exact ⟨h1, h2, h3, h4, h5, h6, h7, h8⟩
def errsB (cs : List Str) (K : PySem.W.Frag) : Bool := cs.all fun c => excCB K (He.ga K c) && decide (PySem.W.kitOne K (.ref (He.ga K c)) (.type "ValueError") = some true) && decide (PySem.W.exmOne K (.ref (He.ga K c)) (.ref (He.ga K "AimError")) = some true) &&
  cs.all fun d => decide (PySem.W.kitOne K (.ref (He.ga K c)) (.ref (He.ga K d)) = some (decide (c = d)))
theorem errs_of {cs : List Str} (h : errsB cs K = true) (hm : ∀ c ∈ cs, mg c = some (.ref (He.ga K c))) (hA : mg "AimError" = some (.ref (He.ga K "AimError"))) : Errs K mg cs := by
  have key : ∀ c ∈ cs, excCB K (He.ga K c) = true ∧ PySem.W.kitOne K (.ref (He.ga K c)) (.type "ValueError") = some true ∧ PySem.W.exmOne K (.ref (He.ga K c)) (.ref (He.ga K "AimError")) = some true ∧ ∀ d ∈ cs, PySem.W.kitOne K (.ref (He.ga K c)) (.ref (He.ga K d)) = some (decide (c = d)) := fun c hc => by
    have := List.all_eq_true.mp h c hc
    simp only [Bool.and_eq_true, decide_eq_true_eq] at this
    obtain ⟨⟨⟨h1, h2⟩, h3⟩, h4⟩ := this
    exact ⟨h1, h2, h3, fun d hd => of_decide_eq_true (List.all_eq_true.mp h4 d hd)⟩
  have ad : ∀ c ∈ cs, ∀ C, mg c = some (.ref C) → C = He.ga K c := fun c hc C e => by
    rw [hm c hc] at e
    cases e
    rfl
  refine ⟨fun c hc => ⟨_, hm c hc, excC_of (key c hc).1⟩, fun c hc d hd C D' eC eD => ?_, fun c hc C eC => ?_, fun c hc C B eC eB => ?_⟩
  · rw [ad c hc C eC, ad d hd D' eD]
    exact (key c hc).2.2.2 d hd
  · rw [ad c hc C eC]
    exact (key c hc).2.1
  · rw [hA] at eB
    cases eB
    rw [ad c hc C eC]
    exact (key c hc).2.2.1
theorem ex_of {c : Str} (hm : mg c = some (.ref (He.ga K c))) (h : (He.Fa.exc c).ok K = true) : Ex K mg c := by
  obtain ⟨h1, h2, h3, h4⟩ := He.exc_ok h
  exact ⟨⟨_, hm, h1, h2, h3, h4⟩⟩
end

/-! ### the end -/
theorem cx_none {P : Program} {w : World} {H : Hp} {s : Shared} {e : Value} {s' : Shared} (h : L2N.CX P w [] H s (fun _ _ _ => False) e s') : False := by
  obtain ⟨_, _, _, _, _, _, _, _, _, _, _, _, z⟩ := h
  exact z
def tbOf (ts : List (Addr × Str)) : Tb := ⟨ts, fun _ _ => True, fun _ _ => trivial⟩
/-- the script as data -/
def script (ns : List Int) : D := .frz (ns.map .int)
theorem sp_start {K : PySem.W.Frag} {mg : Str → Option Value} {ts : List (Addr × Str)} {H : Hp} {a : Addr} {ns : List Int} {g : List D → M D} (hT : ∀ p ∈ ts, H p.1 = some (.tbl #[])) (hS : SqL K H a (ns.map V.int)) (hg : ∃ S, g [script ns] [] = .ok (.bool true) S) :
    spD K mg (tbOf ts) 1 g [.ref a] H (fun v _ => v = .bl true) fun _ _ _ => False := by
  obtain ⟨S1, hg⟩ := hg
  have hs : SqL K (hide ⟨[], []⟩ H) a (ns.map V.int) := by
    rcases hS with (h | ⟨o, h⟩) | h
    · exact .inl (.inl (hide_of (by simp) h))
    · exact .inl (.inr ⟨o, hide_of (by simp) h⟩)
    · exact .inr h
  refine ⟨[script ns], [], ⟨[], []⟩, rfl, .cons (.frz hs (rps_int ns)) .nil, ⟨rfl, List.nodup_nil, fun n a c e1 _ => by simp at e1, fun p hp => LamX.TabS.nil (hT p hp), trivial, fun p hp => by simp at hp⟩, ?_⟩
  rw [hg]
  intro O' H' v _ _ r
  cases r
  rfl
/-- a law of one lambda-maker: itself -/
theorem law_at {l : PySem.W.OpenLaw} {w : World} {K : PySem.W.Frag} {k : Nat} {x q : Str} {st : Stmt} {mg : Str → Option Value} {fa : Addr} {h : Heap} {g : List D → M D} {fd : FuncData} (KX : K.In h) (F : FunD K "law" "law" (defArgs st) (defBody st) (defScope st) [] [] fa fd) (hb : BindEq "law" st [x])
    {cc Pt : Addr} (he : h.get? Pt = some { cls := .none, data := .fields #[] }) (ho : K.lookup Pt = none) (hh : PySem.W.codeHdIn K cc Pt = true) (hcd : fd.code = .ref cc)
    (law : ∀ base : Heap, K.In base → LamX.TabB base mg cc Pt → FnOk l.prog w K mg base (L2N.CX l.prog w) k fa fd [x] (spD K mg (tbOf [(Pt, q)]) 1 g))
    (plain : ∀ ns : List Int, ns.length ≤ 63 → ∃ S, g [script ns] [] = .ok (.bool true) S) : LamX.LawAtS l w K (L2N.CX l.prog w) k 63 x mg fa h := by
  refine ⟨fd, [(cc, Pt)], _, ?_, ?_, ?_, fun s u => ?_, fun H a ns hl _ hH hS => sp_start (ts := [(Pt, q)]) ?_ hS (plain ns hl), fun base hK _ hT => law base hK (hT (cc, Pt) (by simp))⟩
  · intro p hp
    obtain rfl := List.mem_singleton.mp hp
    exact he
  · intro p hp
    obtain rfl := List.mem_singleton.mp hp
    exact ho
  · intro p hp
    obtain rfl := List.mem_singleton.mp hp
    exact PySem.W.codeHd_of_K KX hh
  · exact F.bindsA (ps := [x]) hb s [u] rfl
  · intro p hp
    obtain rfl := List.mem_singleton.mp hp
    exact hH (cc, Pt) (by simp)
end Z
end
section
set_option maxHeartbeats 4000000
/-! What combinators compute: a calculus of results, in plain Lean. -/
namespace Z
open PySem PySem.Spec L2

/-- m ends at S with P, or raises with E -/
def W {α : Type} (m : M α) (S : Store) (P : α → Store → Prop) (E : Str → Store → Prop) : Prop := match m S with
  | .ok a S' => P a S'
  | .err c S' => E c S'
  | .no => False
def WS (b : BS) (env : Ev) (S : Store) (Pn : Ev → Store → Prop) (Pr : D → Store → Prop) (E : Str → Store → Prop) : Prop := match b env S with
  | .next e S' => Pn e S'
  | .ret d S' => Pr d S'
  | .err c _ S' => E c S'
  | _ => False
abbrev NE : Str → Store → Prop := fun _ _ => False
section
variable {α β : Type} {m : M α} {f : α → M β} {S : Store} {P P' : α → Store → Prop} {Q : β → Store → Prop} {E E' : Str → Store → Prop}
@[simp] theorem W_pure {a : α} : W (pure a) S P E = P a S := rfl
@[simp] theorem W_no : W (no : M α) S P E = False := rfl
@[simp] theorem W_raise {c : Str} : W (raise c : M α) S P E = E c S := rfl
@[simp] theorem W_bind : W (m >>= f) S Q E = W m S (fun a S' => W (f a) S' Q E) E := by
  unfold W
  rw [bd_ap]
  cases m S <;> rfl
@[simp] theorem W_ite {c : Prop} [Decidable c] {a b : M α} : W (if c then a else b) S P E = if c then W a S P E else W b S P E := by
  split <;> rfl
theorem W_mono (h : W m S P E) (k : ∀ a S', P a S' → P' a S') (k' : ∀ c S', E c S' → E' c S' := by exact fun _ _ h => h) : W m S P' E' := by
  unfold W at h ⊢
  cases e : m S with
  | ok a S' => rw [e] at h; exact k _ _ h
  | err c S' => rw [e] at h; exact k' _ _ h
  | no => rw [e] at h; exact h
theorem W_eq {d : α} (h : ∀ S, W m S (fun a S' => a = d ∧ S' = S) NE) : m = pure d := by
  funext S
  have := h S
  unfold W at this
  cases e : m S with
  | ok a S' => rw [e] at this; obtain ⟨rfl, rfl⟩ := this; rfl
  | err c S' => rw [e] at this; exact this.elim
  | no => rw [e] at this; exact this.elim
theorem W_out (h : W m S P NE) : ∃ a S', m S = .ok a S' ∧ P a S' := by
  unfold W at h
  cases e : m S with
  | ok a S' => rw [e] at h; exact ⟨a, S', rfl, h⟩
  | err c S' => rw [e] at h; exact h.elim
  | no => rw [e] at h; exact h.elim
theorem W_of {a : α} {S' : Store} (e : m S = .ok a S') (h : P a S') : W m S P E := by
  unfold W
  rw [e]
  exact h
end
/-! ### expressions at work -/
section
variable {env : Ev} {f g h : BE} {t : BT} {fs : BA}
@[simp] theorem eVar_ap {i : Nat} : eVar i env = ofO (env[i]?.getD none) := rfl
@[simp] theorem eC_ap {d : D} : eC d env = pure d := rfl
@[simp] theorem e2_ap {o : D → D → M D} : e2 o f g env = f env >>= fun a => g env >>= fun b => o a b := rfl
@[simp] theorem e1_ap {o : D → M D} : e1 o f env = f env >>= o := rfl
@[simp] theorem g2_ap {o : D → D → M D} {a b : D} : g2 o a b = rd a >>= fun a' => rd b >>= fun b' => o a' b' := rfl
@[simp] theorem g1_ap {o : D → M D} {a : D} : g1 o a = rd a >>= o := rfl
@[simp] theorem aNil_ap : aNil env = pure [] := rfl
@[simp] theorem aCons_ap : aCons f fs env = f env >>= fun a => fs env >>= fun as => pure (a :: as) := rfl
@[simp] theorem eTup_ap : eTup fs env = fs env >>= fun as => if as.length ≤ 1000000 then pure (.tuple as) else no := rfl
@[simp] theorem eLst_ap : eLst fs env = fs env >>= fun as => if as.length ≤ 1000000 then pure (.list as) else no := rfl
@[simp] theorem eCel_ap : eCel fs env = fs env >>= fun as => if as.length ≤ 1000000 then newCell as else no := rfl
@[simp] theorem eCall_ap {n : Nat} {r : List D → M D} : eCall n r fs env = fs env >>= fun as => if as.length = n then r as else no := rfl
@[simp] theorem eCB_ap {r : List D → M D} : eCB r fs env = fs env >>= r := rfl
@[simp] theorem c1_ap {o : D → M D} {a : D} : c1 o [a] = rd a >>= o := rfl
@[simp] theorem c2_ap {o : D → D → M D} {a b : D} : c2 o [a, b] = rd a >>= fun a' => rd b >>= fun b' => o a' b' := rfl
@[simp] theorem eAnd_ap : eAnd f g env = f env >>= fun a => toBool a >>= fun b => if b = true then g env else pure (.bool false) := rfl
@[simp] theorem eOr_ap : eOr f g env = f env >>= fun a => toBool a >>= fun b => if b = true then pure (.bool true) else g env := rfl
@[simp] theorem eNot_ap : eNot f env = f env >>= fun a => toBool a >>= fun b => pure (.bool (!b)) := rfl
@[simp] theorem toBool_ap {b : Bool} : toBool (.bool b) = pure b := rfl
@[simp] theorem eIf_ap : eIf t f g env = t env >>= fun b => if b = true then f env else g env := rfl
@[simp] theorem bTru_ap : bTru f env = f env >>= tru := rfl
@[simp] theorem tru_b {b : Bool} : tru (.bool b) = pure b := rfl
@[simp] theorem bNot_ap : bNot t env = t env >>= fun b => pure (!b) := rfl
@[simp] theorem bAnd_ap {u : BT} : bAnd t u env = t env >>= fun b => if b = true then u env else pure false := rfl
@[simp] theorem bOr_ap {u : BT} : bOr t u env = t env >>= fun b => if b = true then pure true else u env := rfl
def oB : D → M Bool
  | .bool b => pure b
  | _ => no
@[simp] theorem tB1_ap : tB1 f env = f env >>= oB := by
  show (f env >>= _) = _
  congr 1
@[simp] theorem oB_ap {b : Bool} : oB (.bool b) = pure b := rfl
@[simp] theorem eChain_ap {o o' : D → D → M D} : eChain o o' f g h env = f env >>= fun a => g env >>= fun b => o a b >>= fun z => chn h o' b env z := rfl
@[simp] theorem chn_ap {o' : D → D → M D} {b : D} {c : Bool} : chn h o' b env (.bool c) = if c = true then h env >>= fun c => o' b c else pure (.bool false) := by
  cases c <;> rfl
@[simp] theorem eIsi_ap {ty : String} : eIsi ty f env = f env >>= fun a => rd a >>= gIsi ty := rfl
@[simp] theorem eSl_ap {lo hi : BO} : eSl f lo hi env = f env >>= fun a => lo env >>= fun l => hi env >>= fun h => rd a >>= fun a' => gSl a' l h := rfl
@[simp] theorem oNone_ap : oNone env = pure none := rfl
@[simp] theorem oSome_ap : oSome f env = f env >>= toInt := rfl
@[simp] theorem toInt_ap {i : Int} : toInt (.int i) = pure (some i) := rfl
@[simp] theorem eLc_ap {vs : List Nat} {i : BI} {tg : Tg} {tt : BT} : eLc vs i tg tt f env = i env >>= fun p => runLc tg tt f (wipeE env vs) p >>= fun ds => pure (.list ds) := rfl
@[simp] theorem iSeq_ap : iSeq f env = f env >>= toIts := rfl
@[simp] theorem iZp_ap : iZp f g env = f env >>= fun a => g env >>= fun b => toZip a b := rfl
@[simp] theorem iRg_ap : iRg f env = f env >>= toRng := rfl
@[simp] theorem eApp_ap : eApp f g env = f env >>= fun a => isCell a >>= fun _ => g env >>= fun y => push a y := rfl
@[simp] theorem ePop_ap : ePop f g env = f env >>= fun a => isCell a >>= fun _ => g env >>= fun i => popAt a i := rfl
@[simp] theorem isCell_ap {n : Nat} : isCell (.cell n) = pure () := rfl
/-! ### a value that is no cell -/
@[simp] theorem rd_non : rd .none = pure .none := rfl
@[simp] theorem rd_bl {b : Bool} : rd (.bool b) = pure (.bool b) := rfl
@[simp] theorem rd_int {b : Int} : rd (.int b) = pure (.int b) := rfl
@[simp] theorem rd_str {b : Str} : rd (.str b) = pure (.str b) := rfl
@[simp] theorem rd_list {b : List D} : rd (.list b) = pure (.list b) := rfl
@[simp] theorem rd_tuple {b : List D} : rd (.tuple b) = pure (.tuple b) := rfl
@[simp] theorem rd_frz {b : List D} : rd (.frz b) = pure (.frz b) := rfl
@[simp] theorem rd_fn {b : Str} : rd (.fn b) = pure (.fn b) := rfl
theorem rd_ok' {n : Nat} {d : D} (h : okD n d = true) : rd d = pure d := by
  cases d <;> first | rfl | (cases n <;> simp [okD] at h)
theorem ok_fix {n : Nat} : ∀ {d : D}, okD n d = true → fixD d = true := fun {d} h => by
  have both : ∀ (n : Nat), (∀ d, okD n d = true → fixD d = true) ∧ (∀ ds, okDs n ds = true → fixDs ds = true) := by
    intro n
    induction n with
    | zero =>
      have h1 : ∀ d, okD 0 d = true → fixD d = true := fun d h => by cases d <;> first | rfl | simp [okD] at h
      refine ⟨h1, fun ds => ?_⟩
      induction ds with
      | nil => intro _; rfl
      | cons d ds ih => intro h; rw [okDs_cons, Bool.and_eq_true] at h; rw [fixDs, h1 d h.1, ih h.2]; rfl
    | succ n ih =>
      have h1 : ∀ d, okD (n + 1) d = true → fixD d = true := fun d h => by
        cases d with
        | list xs => exact ih.2 xs h
        | tuple xs => exact ih.2 xs h
        | _ => first | rfl | simp [okD] at h
      refine ⟨h1, fun ds => ?_⟩
      induction ds with
      | nil => intro _; rfl
      | cons d ds ih2 => intro h; rw [okDs_cons, Bool.and_eq_true] at h; rw [fixDs, h1 d h.1, ih2 h.2]; rfl
  exact (both n).1 d h
end
/-! ### the operators on ints -/
section
variable {i j : Int}
@[simp] theorem gAdd_ii : gAdd (.int i) (.int j) = pure (.int (i + j)) := rfl
@[simp] theorem gSub_ii : gSub (.int i) (.int j) = pure (.int (i - j)) := rfl
@[simp] theorem gMul_ii : gMul (.int i) (.int j) = if small i = true ∧ small j = true then pure (.int (i * j)) else no := rfl
@[simp] theorem gDiv_ii : gDiv (.int i) (.int j) = if 0 < j ∧ small j = true then pure (.int (i / j)) else no := rfl
@[simp] theorem gMod_ii : gMod (.int i) (.int j) = if 0 < j then pure (.int (i % j)) else no := rfl
@[simp] theorem gCmp_ii {p : Int → Int → Bool} : gCmp p (.int i) (.int j) = pure (.bool (p i j)) := rfl
@[simp] theorem gNeg_i : gNeg (.int i) = pure (.int (-i)) := rfl
@[simp] theorem gAbs_i : gAbs (.int i) = pure (.int (if i < 0 then -i else i)) := rfl
@[simp] theorem gInt_i : gInt (.int i) = pure (.int i) := rfl
@[simp] theorem gMax_ii : gMax2 (.int i) (.int j) = pure (.int (if j > i then j else i)) := rfl
@[simp] theorem gMin_ii : gMin2 (.int i) (.int j) = pure (.int (if j < i then j else i)) := rfl
@[simp] theorem okD_int {n : Nat} : okD n (.int i) = true := by cases n <;> rfl
@[simp] theorem okD_bool {n : Nat} {b : Bool} : okD n (.bool b) = true := by cases n <;> rfl
@[simp] theorem okD_none {n : Nat} : okD n .none = true := by cases n <;> rfl
@[simp] theorem okD_tuple {n : Nat} {xs : List D} : okD (n + 1) (.tuple xs) = okDs n xs := rfl
@[simp] theorem okD_list {n : Nat} {xs : List D} : okD (n + 1) (.list xs) = okDs n xs := rfl
@[simp] theorem okDs_nil' {n : Nat} : okDs n [] = true := by cases n <;> rfl
@[simp] theorem gEq_ii : gEq (.int i) (.int j) = pure (.bool (decide (i = j))) := by
  unfold gEq
  rw [if_pos (by simp)]
  rfl
@[simp] theorem gNe_ii : gNe (.int i) (.int j) = pure (.bool (!decide (i = j))) := by
  unfold gNe
  rw [if_pos (by simp)]
  rfl
@[simp] theorem gLen_t {xs : List D} : gLen (.tuple xs) = pure (.int xs.length) := rfl
@[simp] theorem gLen_l {xs : List D} : gLen (.list xs) = pure (.int xs.length) := rfl
@[simp] theorem gLen_f {xs : List D} : gLen (.frz xs) = pure (.int xs.length) := rfl
@[simp] theorem gIx_t {xs : List D} : gIx (.tuple xs) (.int i) = ofO (atI xs i) := rfl
@[simp] theorem gIx_l {xs : List D} : gIx (.list xs) (.int i) = ofO (atI xs i) := rfl
@[simp] theorem gIx_f {xs : List D} : gIx (.frz xs) (.int i) = ofO (atI xs i) := rfl
end
/-! ### statements at work -/
section
variable {env : Ev} {S : Store} {f g : BS} {e e' e'' : BE} {t : BT} {Pn : Ev → Store → Prop} {Pr : D → Store → Prop} {E : Str → Store → Prop}
@[simp] theorem WS_nil : WS sNil env S Pn Pr E = Pn env S := rfl
@[simp] theorem WS_seq : WS (sSeq f g) env S Pn Pr E = WS f env S (fun v S' => WS g v S' Pn Pr E) Pr E := by
  unfold WS sSeq
  cases f env S <;> rfl
@[simp] theorem WS_set {i : Nat} : WS (sSet i e) env S Pn Pr E = W (e env) S (fun a S' => Pn (env.set i (some a)) S') E := by
  unfold WS sSet W
  cases e env S <;> rfl
@[simp] theorem WS_expr : WS (sExpr e) env S Pn Pr E = W (e env) S (fun _ S' => Pn env S') E := by
  unfold WS sExpr W
  cases e env S <;> rfl
@[simp] theorem WS_ret : WS (sRet e) env S Pn Pr E = W (e env) S Pr E := by
  unfold WS sRet W
  cases e env S <;> rfl
@[simp] theorem WS_retN : WS sRetN env S Pn Pr E = Pr .none S := rfl
@[simp] theorem WS_raise {c : Str} : WS (sRaise c) env S Pn Pr E = E c S := rfl
@[simp] theorem WS_if : WS (sIf t f g) env S Pn Pr E = W (t env) S (fun b S' => if b = true then WS f env S' Pn Pr E else WS g env S' Pn Pr E) E := by
  unfold WS sIf W
  cases t env S with
  | ok b S' => cases b <;> rfl
  | err c S' => rfl
  | no => rfl
@[simp] theorem WS_par {i j : Nat} : WS (sPar i j e e') env S Pn Pr E = W (e env) S (fun a S1 => W (e' env) S1 (fun b S2 => Pn ((env.set i (some a)).set j (some b)) S2) E) E := by
  unfold WS sPar W
  cases e env S with
  | ok a S1 =>
    dsimp only [thenS]
    cases e' env S1 <;> rfl
  | err c S' => rfl
  | no => rfl
@[simp] theorem WS_par3 {i j l : Nat} : WS (sPar3 i j l e e' e'') env S Pn Pr E = W (e env) S (fun a S1 => W (e' env) S1 (fun b S2 => W (e'' env) S2 (fun c S3 => Pn (((env.set i (some a)).set j (some b)).set l (some c)) S3) E) E) E := by
  unfold WS sPar3 W
  cases e env S with
  | ok a S1 =>
    dsimp only [thenS]
    cases e' env S1 with
    | ok b S2 =>
      dsimp only [thenS]
      cases e'' env S2 <;> rfl
    | err c S' => rfl
    | no => rfl
  | err c S' => rfl
  | no => rfl
def asgO (Pn : Ev → Store → Prop) (S : Store) : Option Ev → Prop
  | some v => Pn v S
  | none => False
@[simp] theorem asgO_some {v : Ev} : asgO Pn S (some v) = Pn v S := rfl
@[simp] theorem asgO_none : asgO Pn S none = False := rfl
@[simp] theorem WS_asg {tg : Tg} : WS (sAsg tg e) env S Pn Pr E = W (e env) S (fun a S' => asgO Pn S' (asg S' tg a env)) E := by
  unfold WS sAsg W
  cases e env S with
  | ok a S' =>
    dsimp only [thenS]
    cases asg S' tg a env <;> rfl
  | err c S' => rfl
  | no => rfl
theorem WS_mono {Pn' : Ev → Store → Prop} {Pr' : D → Store → Prop} {E' : Str → Store → Prop} (h : WS f env S Pn Pr E) (k1 : ∀ v S', Pn v S' → Pn' v S') (k2 : ∀ d S', Pr d S' → Pr' d S') (k3 : ∀ c S', E c S' → E' c S' := by exact fun _ _ h => h) : WS f env S Pn' Pr' E' := by
  unfold WS at h ⊢
  cases e : f env S with
  | next v S' => rw [e] at h; exact k1 _ _ h
  | ret d S' => rw [e] at h; exact k2 _ _ h
  | err c v S' => rw [e] at h; exact k3 _ _ h
  | _ => rw [e] at h; exact h
end
/-! the end of a tidy def -/
section
variable {ds : List D} {b : BS} {n : Nat} {S : Store} {P : D → Store → Prop} {E : Str → Store → Prop}
theorem W_fnT : W (fnOf true n b ds) S P E = WS b (ds.map some ++ List.replicate (n - ds.length) none) S (fun _ S' => P .none (S'.take S.length)) (fun d S' => W (endT S.length d) S' P E) E := by
  unfold W WS fnOf endF
  cases b (ds.map some ++ List.replicate (n - ds.length) none) S <;> rfl
theorem W_fnF : W (fnOf false n b ds) S P E = WS b (ds.map some ++ List.replicate (n - ds.length) none) S (fun _ S' => P .none S') P E := by
  unfold W WS fnOf endF
  cases b (ds.map some ++ List.replicate (n - ds.length) none) S <;> rfl
theorem W_endT {m : Nat} {d : D} (h : fixD d = true) : W (endT m d) S P E = P d (S.take m) := by
  unfold W
  cases d with
  | cell n => cases h
  | _ =>
    unfold endT
    dsimp only
    rw [if_pos h]
@[simp] theorem W_endB {m : Nat} {c : Bool} : W (endT m (.bool c)) S P E = P (.bool c) (S.take m) := W_endT rfl
@[simp] theorem W_endI {m : Nat} {c : Int} : W (endT m (.int c)) S P E = P (.int c) (S.take m) := W_endT rfl
end
end Z
end
section
set_option maxHeartbeats 4000000
/-! Types of plain values; what is asked of values. -/
namespace Z
open PySem PySem.Spec L2
theorem kb_NoneType_int : kitB "NoneType" "int" = some false := by decide +kernel
theorem kb_bool_int : kitB "bool" "int" = some true := by decide +kernel
theorem kb_int_int : kitB "int" "int" = some true := by decide +kernel
theorem kb_str_int : kitB "str" "int" = some false := by decide +kernel
theorem kb_list_int : kitB "list" "int" = some false := by decide +kernel
theorem kb_tuple_int : kitB "tuple" "int" = some false := by decide +kernel
theorem kb_NoneType_bool : kitB "NoneType" "bool" = some false := by decide +kernel
theorem kb_bool_bool : kitB "bool" "bool" = some true := by decide +kernel
theorem kb_int_bool : kitB "int" "bool" = some false := by decide +kernel
theorem kb_str_bool : kitB "str" "bool" = some false := by decide +kernel
theorem kb_list_bool : kitB "list" "bool" = some false := by decide +kernel
theorem kb_tuple_bool : kitB "tuple" "bool" = some false := by decide +kernel
theorem kb_NoneType_str : kitB "NoneType" "str" = some false := by decide +kernel
theorem kb_bool_str : kitB "bool" "str" = some false := by decide +kernel
theorem kb_int_str : kitB "int" "str" = some false := by decide +kernel
theorem kb_str_str : kitB "str" "str" = some true := by decide +kernel
theorem kb_list_str : kitB "list" "str" = some false := by decide +kernel
theorem kb_tuple_str : kitB "tuple" "str" = some false := by decide +kernel
theorem kb_NoneType_list : kitB "NoneType" "list" = some false := by decide +kernel
theorem kb_bool_list : kitB "bool" "list" = some false := by decide +kernel
theorem kb_int_list : kitB "int" "list" = some false := by decide +kernel
theorem kb_str_list : kitB "str" "list" = some false := by decide +kernel
theorem kb_list_list : kitB "list" "list" = some true := by decide +kernel
theorem kb_tuple_list : kitB "tuple" "list" = some false := by decide +kernel
theorem kb_NoneType_tuple : kitB "NoneType" "tuple" = some false := by decide +kernel
theorem kb_bool_tuple : kitB "bool" "tuple" = some false := by decide +kernel
theorem kb_int_tuple : kitB "int" "tuple" = some false := by decide +kernel
theorem kb_str_tuple : kitB "str" "tuple" = some false := by decide +kernel
theorem kb_list_tuple : kitB "list" "tuple" = some false := by decide +kernel
theorem kb_tuple_tuple : kitB "tuple" "tuple" = some true := by decide +kernel
/-- plain values -/
def isTy (ty : String) (v : D) : Bool := match v with
  | .int _ => ty == "int"
  | .bool _ => ty == "int" || ty == "bool"
  | .str _ => ty == "str"
  | .list _ => ty == "list"
  | .tuple _ => ty == "tuple"
  | _ => false
theorem isi_int {n : Nat} {v : D} (h : okD n v = true) : gIsi "int" v = pure (.bool (isTy "int" v)) := by
  unfold gIsi
  cases v with
  | none => rw [show tyName .none = some "NoneType" from rfl, Option.bind_some, kb_NoneType_int]; rfl
  | bool b => rw [show tyName (.bool b) = some "bool" from rfl, Option.bind_some, kb_bool_int]; rfl
  | int b => rw [show tyName (.int b) = some "int" from rfl, Option.bind_some, kb_int_int]; rfl
  | str b => rw [show tyName (.str b) = some "str" from rfl, Option.bind_some, kb_str_int]; rfl
  | list b => rw [show tyName (.list b) = some "list" from rfl, Option.bind_some, kb_list_int]; rfl
  | tuple b => rw [show tyName (.tuple b) = some "tuple" from rfl, Option.bind_some, kb_tuple_int]; rfl
  | _ => cases n <;> simp [okD] at h
theorem isi_bool {n : Nat} {v : D} (h : okD n v = true) : gIsi "bool" v = pure (.bool (isTy "bool" v)) := by
  unfold gIsi
  cases v with
  | none => rw [show tyName .none = some "NoneType" from rfl, Option.bind_some, kb_NoneType_bool]; rfl
  | bool b => rw [show tyName (.bool b) = some "bool" from rfl, Option.bind_some, kb_bool_bool]; rfl
  | int b => rw [show tyName (.int b) = some "int" from rfl, Option.bind_some, kb_int_bool]; rfl
  | str b => rw [show tyName (.str b) = some "str" from rfl, Option.bind_some, kb_str_bool]; rfl
  | list b => rw [show tyName (.list b) = some "list" from rfl, Option.bind_some, kb_list_bool]; rfl
  | tuple b => rw [show tyName (.tuple b) = some "tuple" from rfl, Option.bind_some, kb_tuple_bool]; rfl
  | _ => cases n <;> simp [okD] at h
theorem isi_str {n : Nat} {v : D} (h : okD n v = true) : gIsi "str" v = pure (.bool (isTy "str" v)) := by
  unfold gIsi
  cases v with
  | none => rw [show tyName .none = some "NoneType" from rfl, Option.bind_some, kb_NoneType_str]; rfl
  | bool b => rw [show tyName (.bool b) = some "bool" from rfl, Option.bind_some, kb_bool_str]; rfl
  | int b => rw [show tyName (.int b) = some "int" from rfl, Option.bind_some, kb_int_str]; rfl
  | str b => rw [show tyName (.str b) = some "str" from rfl, Option.bind_some, kb_str_str]; rfl
  | list b => rw [show tyName (.list b) = some "list" from rfl, Option.bind_some, kb_list_str]; rfl
  | tuple b => rw [show tyName (.tuple b) = some "tuple" from rfl, Option.bind_some, kb_tuple_str]; rfl
  | _ => cases n <;> simp [okD] at h
theorem isi_list {n : Nat} {v : D} (h : okD n v = true) : gIsi "list" v = pure (.bool (isTy "list" v)) := by
  unfold gIsi
  cases v with
  | none => rw [show tyName .none = some "NoneType" from rfl, Option.bind_some, kb_NoneType_list]; rfl
  | bool b => rw [show tyName (.bool b) = some "bool" from rfl, Option.bind_some, kb_bool_list]; rfl
  | int b => rw [show tyName (.int b) = some "int" from rfl, Option.bind_some, kb_int_list]; rfl
  | str b => rw [show tyName (.str b) = some "str" from rfl, Option.bind_some, kb_str_list]; rfl
  | list b => rw [show tyName (.list b) = some "list" from rfl, Option.bind_some, kb_list_list]; rfl
  | tuple b => rw [show tyName (.tuple b) = some "tuple" from rfl, Option.bind_some, kb_tuple_list]; rfl
  | _ => cases n <;> simp [okD] at h
theorem isi_tuple {n : Nat} {v : D} (h : okD n v = true) : gIsi "tuple" v = pure (.bool (isTy "tuple" v)) := by
  unfold gIsi
  cases v with
  | none => rw [show tyName .none = some "NoneType" from rfl, Option.bind_some, kb_NoneType_tuple]; rfl
  | bool b => rw [show tyName (.bool b) = some "bool" from rfl, Option.bind_some, kb_bool_tuple]; rfl
  | int b => rw [show tyName (.int b) = some "int" from rfl, Option.bind_some, kb_int_tuple]; rfl
  | str b => rw [show tyName (.str b) = some "str" from rfl, Option.bind_some, kb_str_tuple]; rfl
  | list b => rw [show tyName (.list b) = some "list" from rfl, Option.bind_some, kb_list_tuple]; rfl
  | tuple b => rw [show tyName (.tuple b) = some "tuple" from rfl, Option.bind_some, kb_tuple_tuple]; rfl
  | _ => cases n <;> simp [okD] at h
def isWhole (v : D) (lo hi : Int) : Bool := match v with
  | .int i => decide (lo ≤ i) && decide (i ≤ hi)
  | _ => false
def isRow (v : D) (lo hi : Int) : Bool := match v with
  | .tuple xs => decide (lo ≤ (xs.length : Int)) && decide ((xs.length : Int) ≤ hi)
  | _ => false
/-! ### places -/
theorem at0 {a : D} {xs : List D} : atI (a :: xs) 0 = some a := by
  unfold atI ixN
  simp
theorem at1 {a b : D} {xs : List D} : atI (a :: b :: xs) 1 = some b := by
  unfold atI ixN
  rw [if_pos (by omega), if_pos (by simp; omega)]
  rfl
theorem at2 {a b c : D} {xs : List D} : atI (a :: b :: c :: xs) 2 = some c := by
  unfold atI ixN
  rw [if_pos (by omega), if_pos (by simp; omega)]
  rfl
theorem okDs_cons' {n : Nat} {x : D} {xs : List D} : okDs n (x :: xs) = (okD n x && okDs n xs) := okDs_cons
theorem okDs_mem {n : Nat} : ∀ {xs : List D}, okDs n xs = true → ∀ x ∈ xs, okD n x = true
  | [], _, _, h => by simp at h
  | x :: xs, e, y, h => by
    rw [okDs_cons, Bool.and_eq_true] at e
    rcases List.mem_cons.mp h with rfl | h
    · exact e.1
    · exact okDs_mem e.2 y h
theorem okDs_of {n : Nat} : ∀ {xs : List D}, (∀ x ∈ xs, okD n x = true) → okDs n xs = true
  | [], _ => by simp
  | x :: xs, h => by
    rw [okDs_cons, Bool.and_eq_true]
    exact ⟨h x (by simp), okDs_of fun y hy => h y (List.mem_cons_of_mem _ hy)⟩
theorem gEq_ok {a b : D} (ha : okD 64 a = true) (hb : okD 64 b = true) : gEq a b = pure (.bool (eqD a b)) := by
  unfold gEq
  rw [if_pos ⟨ha, hb⟩]
theorem gNe_ok {a b : D} (ha : okD 64 a = true) (hb : okD 64 b = true) : gNe a b = pure (.bool (!eqD a b)) := by
  unfold gNe
  rw [if_pos ⟨ha, hb⟩]
theorem cut1 {xs : List D} : cutD xs (some 1) none = xs.drop 1 := by
  unfold cutD
  cases xs with
  | nil => rfl
  | cons x xs =>
    have e1 : HT.sIx (x :: xs).length 0 (some 1) = 1 := by
      show (if (1 : Int) < 0 then ((1 : Int) + ((x :: xs).length : Int)).toNat else min (1 : Int).toNat (x :: xs).length) = 1
      rw [if_neg (by omega)]
      simp
    have e2 : HT.sIx (x :: xs).length (x :: xs).length none = (x :: xs).length := rfl
    rw [e1, e2]
    simp
@[simp] theorem gSl_t {xs : List D} {lo hi : Option Int} : gSl (.tuple xs) lo hi = pure (.tuple (cutD xs lo hi)) := rfl
@[simp] theorem gSl_l {xs : List D} {lo hi : Option Int} : gSl (.list xs) lo hi = pure (.list (cutD xs lo hi)) := rfl
/-! ### what is walked -/
@[simp] theorem toIts_t {xs : List D} : toIts (.tuple xs) = pure ⟨xs, fun _ => true⟩ := rfl
@[simp] theorem toIts_l {xs : List D} : toIts (.list xs) = pure ⟨xs, fun _ => true⟩ := rfl
@[simp] theorem toZip_t {xs ys : List D} : toZip (.tuple xs) (.tuple ys) = pure ⟨pairDs xs ys, fun _ => true && true⟩ := rfl
theorem lc_go {t : Tg} {f : BE} {env : Ev} {gd : Store → Bool} {ε : D → Ev} {φ : D → D} (hg : ∀ S, gd S = true) : ∀ {ds acc : List D} {S : Store}, (∀ d ∈ ds, ∀ S, asg S t d env = some (ε d)) → (∀ d ∈ ds, f (ε d) = pure (φ d)) → acc.length + ds.length ≤ 1000000 → compM gd t bYes f env ds acc S = .ok (acc ++ ds.map φ) S
  | [], acc, S, _, _, _ => by
    rw [compM, if_pos (hg S)]
    simp
  | d :: ds, acc, S, ha, hf, hl => by
    rw [List.length_cons] at hl
    rw [compM, if_pos (hg S), ha d (by simp) S]
    dsimp only [bYes]
    rw [hf d (by simp)]
    dsimp only [pure_ap]
    rw [if_pos (by omega), lc_go hg (fun x hx => ha x (List.mem_cons_of_mem _ hx)) (fun x hx => hf x (List.mem_cons_of_mem _ hx)) (by simp; omega)]
    simp
theorem lc_map {t : Tg} {f : BE} {env : Ev} {p : Its} (ε : D → Ev) (φ : D → D) (hg : ∀ S, p.gd S = true) (ha : ∀ d ∈ p.ds, ∀ S, asg S t d env = some (ε d)) (hf : ∀ d ∈ p.ds, f (ε d) = pure (φ d)) (hl : p.ds.length ≤ 1000000) : runLc t bYes f env p = pure (p.ds.map φ) := by
  funext S
  unfold runLc
  rw [lc_go hg ha hf (by simpa using hl)]
  simp
theorem bools_map {α : Type} {p : α → Bool} : ∀ {xs : List α}, bools (xs.map fun x => D.bool (p x)) = some (xs.map p)
  | [] => rfl
  | x :: xs => by
    rw [List.map_cons, bools, bools_map]
    rfl
theorem gAll_map {α : Type} {p : α → Bool} {xs : List α} : gAll (.list (xs.map fun x => D.bool (p x))) = pure (.bool (xs.all p)) := by
  unfold gAll
  dsimp only
  rw [bools_map]
  simp [List.all_map]
/-! ### loops -/
section
variable {env : Ev} {S : Store} {Pn : Ev → Store → Prop} {Pr : D → Store → Prop} {E : Str → Store → Prop} {gd : Store → Bool} {t : Tg} {b : BS} {c : BT} {ds : List D} {d : D} {n : Nat}
@[simp] theorem WS_for {i : BI} : WS (sFor i t b) env S Pn Pr E = W (i env) S (fun p S' => WS (forM p.gd t b p.ds) env S' Pn Pr E) E := by
  unfold WS sFor W
  cases i env S <;> rfl
theorem WSF_nil (hg : gd S = true) (h : Pn env S) : WS (forM gd t b []) env S Pn Pr E := by
  unfold WS
  rw [forM, if_pos hg]
  exact h
theorem WSF_cons {env1 : Ev} (hg : gd S = true) (ha : asg S t d env = some env1) (h : WS b env1 S (fun v S' => WS (forM gd t b ds) v S' Pn Pr E) Pr E) : WS (forM gd t b (d :: ds)) env S Pn Pr E := by
  unfold WS at h ⊢
  rw [forM, if_pos hg, ha]
  dsimp only
  cases e : b env1 S with
  | next v S' => rw [e] at h; exact h
  | ret x S' => rw [e] at h; exact h
  | err x v S' => rw [e] at h; exact h
  | brk v S' => rw [e] at h; exact h.elim
  | cont v S' => rw [e] at h; exact h.elim
  | no => rw [e] at h; exact h.elim
theorem WSW {n : Nat} (h : W (c env) S (fun k S1 => if k = true then WS b env S1 (fun v S' => WS (whileM c b n) v S' Pn Pr E) Pr E else Pn env S1) E) : WS (whileM c b (n + 1)) env S Pn Pr E := by
  unfold WS W at *
  rw [whileM]
  cases e : c env S with
  | ok k S1 =>
    rw [e] at h
    dsimp only [thenS] at h ⊢
    cases k with
    | true =>
      rw [if_pos rfl] at h ⊢
      cases e2 : b env S1 with
      | next v S' => rw [e2] at h; exact h
      | ret x S' => rw [e2] at h; exact h
      | err x v S' => rw [e2] at h; exact h
      | brk v S' => rw [e2] at h; exact h.elim
      | cont v S' => rw [e2] at h; exact h.elim
      | no => rw [e2] at h; exact h.elim
    | false =>
      rw [if_neg (by decide)] at h ⊢
      exact h
  | err x S' => rw [e] at h; exact h
  | no => rw [e] at h; exact h.elim
theorem WSF_inv (Inv : Nat → Ev → Store → Prop) (hg : ∀ S, gd S = true) : ∀ (ds : List D) (j : Nat) (env : Ev) (S : Store), (∀ i d env S, ds[i]? = some d → Inv (j + i) env S → ∃ env1, asg S t d env = some env1 ∧ WS b env1 S (Inv (j + i + 1)) Pr E) → Inv j env S → (∀ v S', Inv (j + ds.length) v S' → Pn v S') → WS (forM gd t b ds) env S Pn Pr E
  | [], j, env, S, _, h0, hn => WSF_nil (hg S) (hn _ _ h0)
  | d :: ds, j, env, S, step, h0, hn => by
    obtain ⟨env1, e1, h1⟩ := step 0 d env S rfl h0
    refine WSF_cons (hg S) e1 (WS_mono h1 (fun v S' hv => ?_) fun _ _ h => h)
    refine WSF_inv Inv hg ds (j + 1) v S' (fun i d' env' S2 hd hi => ?_) hv (fun v2 S2 h2 => hn v2 S2 (by rw [List.length_cons, ← Nat.add_assoc, Nat.add_right_comm]; exact h2))
    have := step (i + 1) d' env' S2 (by simpa using hd) (by rw [← Nat.add_assoc, Nat.add_right_comm]; exact hi)
    rw [← Nat.add_assoc, Nat.add_right_comm j i 1] at this
    exact this
theorem range_at {n i : Nat} {d : D} (h : (rangeDs 0 n)[i]? = some d) : i < n ∧ d = .int (i : Nat) := by
  unfold rangeDs at h
  rw [List.getElem?_map] at h
  obtain ⟨j, h1, h2⟩ := Option.map_eq_some_iff.mp h
  have hl := (List.getElem?_eq_some_iff.mp h1).1
  rw [List.length_range] at hl
  rw [List.getElem?_range hl] at h1
  cases h1
  subst h2
  exact ⟨hl, by simp⟩
@[simp] theorem rangeDs_len {lo : Int} {n : Nat} : (rangeDs lo n).length = n := by
  simp [rangeDs]
theorem toRng_n {n : Nat} (h : n ≤ 1000000) : toRng (.int (n : Nat)) = pure ⟨rangeDs 0 n, fun _ => true⟩ := by
  unfold toRng
  dsimp only
  rw [if_pos ⟨by omega, by omega⟩]
  rfl
end
/-! ### lists that change -/
section
variable {S : Store} {n : Nat} {ds : List D} {d y : D} {P : D → Store → Prop} {E : Str → Store → Prop}
theorem W_rd (e : S[n]? = some (.lst ds)) : W (rd (.cell n)) S P E = P (.list ds) S := by
  unfold W rd
  dsimp only
  rw [e]
theorem W_cellAt {P : Nat × List D → Store → Prop} (e : S[n]? = some (.lst ds)) : W (cellAt (.cell n)) S P E = P (n, ds) S := by
  unfold W cellAt
  dsimp only
  rw [e]
theorem W_setCell : W (setCell n ds d) S P E = P d (S.set n (.lst ds)) := rfl
theorem W_pop0 (e : S[n]? = some (.lst (d :: ds))) (hl : ds.length < 1000000) : W (popAt (.cell n) (.int 0)) S P E = P d (S.set n (.lst ds)) := by
  have e2 : ixN (d :: ds).length 0 = some 0 := by
    unfold ixN
    rw [if_pos (by omega), if_pos (by rw [List.length_cons]; omega)]
    rfl
  unfold popAt
  rw [W_bind, W_cellAt e]
  dsimp only
  rw [if_pos (by rw [List.length_cons]; omega), e2]
  rfl
theorem W_push (e : S[n]? = some (.lst ds)) (hf : fixD y = true) (hl : ds.length < 1000000) : W (push (.cell n) y) S P E = P .none (S.set n (.lst (ds ++ [y]))) := by
  unfold push
  rw [W_bind, W_cellAt e]
  dsimp only
  rw [if_pos ⟨hf, hl⟩]
  rfl
theorem W_new (hf : fixDs ds = true) : W (newCell ds) S P E = P (.cell S.length) (S ++ [.lst ds]) := by
  unfold W newCell
  rw [if_pos hf]
end
end Z
end
section
set_option maxHeartbeats 4000000
/-! More laws of results. -/
namespace Z
open PySem PySem.Spec L2
section
variable {S : Store} {d : D} {ds es : List D} {env : Ev} {i : Nat} {t : Tg} {ts : List Tg}
@[simp] theorem asg_name : asg S (.name i) d env = some (env.set i (some d)) := by simp [asg]
@[simp] theorem asg_tt : asg S (.tup ts) (.tuple ds) env = asgs S ts ds env := by simp [asg]
@[simp] theorem asg_tl : asg S (.tup ts) (.list ds) env = asgs S ts ds env := by simp [asg]
@[simp] theorem asgs_nil : asgs S [] [] env = some env := by simp [asgs]
@[simp] theorem asgs_cons : asgs S (t :: ts) (d :: ds) env = (asg S t d env).bind (asgs S ts ds) := by
  simp [asgs]
@[simp] theorem gAdd_tt : gAdd (.tuple ds) (.tuple es) = if ds.length + es.length ≤ 1000000 then pure (.tuple (ds ++ es)) else no := rfl
@[simp] theorem gAdd_ll : gAdd (.list ds) (.list es) = if ds.length + es.length ≤ 1000000 then pure (.list (ds ++ es)) else no := rfl
@[simp] theorem gAdd_bi {b : Bool} {j : Int} : gAdd (.bool b) (.int j) = pure (.int (b2n b + j)) := rfl
@[simp] theorem gSub_bi {b : Bool} {j : Int} : gSub (.bool b) (.int j) = pure (.int (b2n b - j)) := rfl
@[simp] theorem gAddC_ll : gAddC (.list ds) (.list es) = if ds.length + es.length ≤ 1000000 then newCell (ds ++ es) else no := rfl
@[simp] theorem gTuple_t : gTuple (.tuple ds) = pure (.tuple ds) := rfl
@[simp] theorem gTuple_l : gTuple (.list ds) = pure (.tuple ds) := rfl
@[simp] theorem gList_t : gList (.tuple ds) = pure (.list ds) := rfl
@[simp] theorem gList_l : gList (.list ds) = pure (.list ds) := rfl
@[simp] theorem gRevT_t : gRevT (.tuple ds) = pure (.tuple ds.reverse) := rfl
@[simp] theorem fix_t : fixD (.tuple ds) = fixDs ds := rfl
@[simp] theorem fix_l : fixD (.list ds) = fixDs ds := rfl
@[simp] theorem fix_i {j : Int} : fixD (.int j) = true := rfl
@[simp] theorem fix_b {j : Bool} : fixD (.bool j) = true := rfl
@[simp] theorem fix_s {j : Str} : fixD (.str j) = true := rfl
@[simp] theorem fix_n : fixD .none = true := rfl
@[simp] theorem fixs_nil : fixDs [] = true := rfl
@[simp] theorem fixs_cons : fixDs (d :: ds) = (fixD d && fixDs ds) := rfl
@[simp] theorem fixs_app : fixDs (ds ++ es) = (fixDs ds && fixDs es) := by
  induction ds with
  | nil => simp
  | cons d ds ih => simp [ih, Bool.and_assoc]
theorem fixs_all : fixDs ds = ds.all fixD := by
  induction ds with
  | nil => rfl
  | cons d ds ih => simp [ih]
end
end Z
end
section
set_option maxHeartbeats 4000000
/-! Backward steps: a goal about a combinator from goals about its parts. -/
namespace Z
open PySem PySem.Spec L2
section
variable {α β : Type} {m : M α} {F : α → M β} {S : Store} {P : D → Store → Prop} {PB : Bool → Store → Prop} {PA : List D → Store → Prop} {PO : Option Int → Store → Prop} {PI : Its → Store → Prop} {Q : β → Store → Prop} {R : α → Store → Prop} {E : Str → Store → Prop}
  {env : Ev} {f g h : BE} {t u : BT} {fs : BA} {i j : Int} {n k : Nat} {d a b : D} {ds es : List D} {Pn : Ev → Store → Prop} {Pr : D → Store → Prop} {s s' : BS} {e e' e'' : BE} {c : Bool} {x y : Str} {p : Prop}

theorem w_bind (H : W m S (fun a S' => W (F a) S' Q E) E) : W (m >>= F) S Q E := by rw [W_bind]; exact H
theorem w_pure {a : α} (H : R a S) : W (pure a) S R E := H
theorem w_eq {a : α} {m : M α} (e : m = pure a) (H : R a S) : W m S R E := by rw [e]; exact H
theorem w_var (e : env[n]? = some (some d)) (H : P d S) : W (eVar n env) S P E := by rw [eVar_ap, e]; exact H
theorem w_c (H : P d S) : W (eC d env) S P E := H
theorem w_e2 {o : D → D → M D} (H : W (f env) S (fun a S1 => W (g env) S1 (fun b S2 => W (o a b) S2 P E) E) E) : W (e2 o f g env) S P E := by rw [e2_ap, W_bind]; simpa only [W_bind] using H
theorem w_e1 {o : D → M D} (H : W (f env) S (fun a S1 => W (o a) S1 P E) E) : W (e1 o f env) S P E := by rw [e1_ap, W_bind]; exact H
theorem w_g2 {o : D → D → M D} (H : W (rd a) S (fun a S1 => W (rd b) S1 (fun b S2 => W (o a b) S2 P E) E) E) : W (g2 o a b) S P E := by rw [g2_ap, W_bind]; simpa only [W_bind] using H
theorem w_g1 {o : D → M D} (H : W (rd a) S (fun a S1 => W (o a) S1 P E) E) : W (g1 o a) S P E := by rw [g1_ap, W_bind]; exact H
theorem w_rd_i (H : P (.int i) S) : W (rd (.int i)) S P E := H
theorem w_rd_b (H : P (.bool c) S) : W (rd (.bool c)) S P E := H
theorem w_rd_s (H : P (.str x) S) : W (rd (.str x)) S P E := H
theorem w_rd_n (H : P (.none) S) : W (rd (.none)) S P E := H
theorem w_rd_t (H : P (.tuple ds) S) : W (rd (.tuple ds)) S P E := H
theorem w_rd_l (H : P (.list ds) S) : W (rd (.list ds)) S P E := H
theorem w_rd_f (H : P (.frz ds) S) : W (rd (.frz ds)) S P E := H
theorem w_rd_fn (H : P (.fn x) S) : W (rd (.fn x)) S P E := H
theorem w_rd_c (e : S[n]? = some (.lst ds)) (H : P (.list ds) S) : W (rd (.cell n)) S P E := by rw [W_rd e]; exact H
theorem w_rd_ok (e : okD k d = true) (H : P d S) : W (rd d) S P E := by rw [rd_ok' e]; exact H
theorem w_aNil (H : PA [] S) : W (aNil env) S PA E := H
theorem w_aCons (H : W (f env) S (fun a S1 => W (fs env) S1 (fun as S2 => PA (a :: as) S2) E) E) : W (aCons f fs env) S PA E := by rw [aCons_ap, W_bind]; simpa only [W_bind, W_pure] using H
theorem w_eTup (H : W (fs env) S (fun as S1 => as.length ≤ 1000000 ∧ P (.tuple as) S1) E) : W (eTup fs env) S P E := by
  rw [eTup_ap, W_bind]
  refine W_mono H fun as S1 h => ?_
  rw [if_pos h.1]
  exact h.2
theorem w_eLst (H : W (fs env) S (fun as S1 => as.length ≤ 1000000 ∧ P (.list as) S1) E) : W (eLst fs env) S P E := by
  rw [eLst_ap, W_bind]
  refine W_mono H fun as S1 h => ?_
  rw [if_pos h.1]
  exact h.2
theorem w_eCel (H : W (fs env) S (fun as S1 => as.length ≤ 1000000 ∧ W (newCell as) S1 P E) E) : W (eCel fs env) S P E := by
  rw [eCel_ap, W_bind]
  refine W_mono H fun as S1 h => ?_
  rw [if_pos h.1]
  exact h.2
theorem w_new (hf : fixDs ds = true) (H : P (.cell S.length) (S ++ [.lst ds])) : W (newCell ds) S P E := by rw [W_new hf]; exact H
theorem len_ok {A : Prop} (h : Nat.ble ds.length 1000000 = true) (H : A) : ds.length ≤ 1000000 ∧ A := ⟨Nat.le_of_ble_eq_true h, H⟩
theorem w_eCall {r : List D → M D} (H : W (fs env) S (fun as S1 => as.length = n ∧ W (r as) S1 P E) E) : W (eCall n r fs env) S P E := by
  rw [eCall_ap, W_bind]
  refine W_mono H fun as S1 h => ?_
  rw [if_pos h.1]
  exact h.2
theorem len_eq {A : Prop} (h : ds.length = n) (H : A) : ds.length = n ∧ A := ⟨h, H⟩
theorem w_eCB {r : List D → M D} (H : W (fs env) S (fun as S1 => W (r as) S1 P E) E) : W (eCB r fs env) S P E := by rw [eCB_ap, W_bind]; exact H
theorem w_c1 {o : D → M D} (H : W (rd a) S (fun a S1 => W (o a) S1 P E) E) : W (c1 o [a]) S P E := by rw [c1_ap, W_bind]; exact H
theorem w_c2 {o : D → D → M D} (H : W (rd a) S (fun a S1 => W (rd b) S1 (fun b S2 => W (o a b) S2 P E) E) E) : W (c2 o [a, b]) S P E := by rw [c2_ap, W_bind]; simpa only [W_bind] using H
theorem w_eAnd (H : W (f env) S (fun a S1 => W (toBool a) S1 (fun b S2 => if b = true then W (g env) S2 P E else P (.bool false) S2) E) E) : W (eAnd f g env) S P E := by rw [eAnd_ap, W_bind]; simpa only [W_bind, W_ite, W_pure] using H
theorem w_eOr (H : W (f env) S (fun a S1 => W (toBool a) S1 (fun b S2 => if b = true then P (.bool true) S2 else W (g env) S2 P E) E) E) : W (eOr f g env) S P E := by rw [eOr_ap, W_bind]; simpa only [W_bind, W_ite, W_pure] using H
theorem w_eNot (H : W (f env) S (fun a S1 => W (toBool a) S1 (fun b S2 => P (.bool (!b)) S2) E) E) : W (eNot f env) S P E := by rw [eNot_ap, W_bind]; simpa only [W_bind, W_ite, W_pure] using H
theorem w_toBool (H : PB c S) : W (toBool (.bool c)) S PB E := H
theorem w_eIf (H : W (t env) S (fun b S1 => if b = true then W (f env) S1 P E else W (g env) S1 P E) E) : W (eIf t f g env) S P E := by rw [eIf_ap, W_bind]; simpa only [W_bind, W_ite] using H
theorem w_bTru (H : W (f env) S (fun a S1 => W (tru a) S1 PB E) E) : W (bTru f env) S PB E := by rw [bTru_ap, W_bind]; exact H
theorem w_tru_b (H : PB c S) : W (tru (.bool c)) S PB E := H
theorem w_tru_n (H : PB false S) : W (tru .none) S PB E := H
theorem w_tru_i (H : PB (i != 0) S) : W (tru (.int i)) S PB E := H
theorem w_tru_t (H : PB (!ds.isEmpty) S) : W (tru (.tuple ds)) S PB E := H
theorem w_tru_l (H : PB (!ds.isEmpty) S) : W (tru (.list ds)) S PB E := H
theorem w_tB1 (H : W (f env) S (fun a S1 => W (oB a) S1 PB E) E) : W (tB1 f env) S PB E := by rw [tB1_ap, W_bind]; exact H
theorem w_oB (H : PB c S) : W (oB (.bool c)) S PB E := H
theorem w_bNot (H : W (t env) S (fun b S1 => PB (!b) S1) E) : W (bNot t env) S PB E := by rw [bNot_ap, W_bind]; simpa only [W_pure] using H
theorem w_bAnd (H : W (t env) S (fun b S1 => if b = true then W (u env) S1 PB E else PB false S1) E) : W (bAnd t u env) S PB E := by rw [bAnd_ap, W_bind]; simpa only [W_bind, W_ite, W_pure] using H
theorem w_bOr (H : W (t env) S (fun b S1 => if b = true then PB true S1 else W (u env) S1 PB E) E) : W (bOr t u env) S PB E := by rw [bOr_ap, W_bind]; simpa only [W_bind, W_ite, W_pure] using H
theorem w_bYes (H : PB true S) : W (bYes env) S PB E := H
theorem w_eChain {o o' : D → D → M D} (H : W (f env) S (fun a S1 => W (g env) S1 (fun b S2 => W (o a b) S2 (fun z S3 => W (toBool z) S3 (fun c S4 => if c = true then W (h env) S4 (fun c S5 => W (o' b c) S5 P E) E else P (.bool false) S4) E) E) E) E) : W (eChain o o' f g h env) S P E := by
  rw [eChain_ap, W_bind]
  refine W_mono H fun a S1 H => ?_
  rw [W_bind]
  refine W_mono H fun b S2 H => ?_
  rw [W_bind]
  refine W_mono H fun z S3 H => ?_
  cases z with
  | bool c =>
    rw [chn_ap]
    rw [toBool_ap, W_pure] at H
    rw [W_ite, W_bind, W_pure]
    exact H
  | _ => exact H.elim
theorem w_eIsi {ty : String} (H : W (f env) S (fun a S1 => W (rd a) S1 (fun a S2 => W (gIsi ty a) S2 P E) E) E) : W (eIsi ty f env) S P E := by rw [eIsi_ap, W_bind]; simpa only [W_bind] using H
theorem w_is_int_i (H : P (.bool true) S) : W (gIsi "int" (.int i)) S P E := by
  unfold gIsi
  rw [show tyName (.int i) = some "int" from rfl, Option.bind_some, kb_int_int]
  exact H
theorem w_is_int_b (H : P (.bool true) S) : W (gIsi "int" (.bool c)) S P E := by
  unfold gIsi
  rw [show tyName (.bool c) = some "bool" from rfl, Option.bind_some, kb_bool_int]
  exact H
theorem w_is_int_s (H : P (.bool false) S) : W (gIsi "int" (.str x)) S P E := by
  unfold gIsi
  rw [show tyName (.str x) = some "str" from rfl, Option.bind_some, kb_str_int]
  exact H
theorem w_is_int_n (H : P (.bool false) S) : W (gIsi "int" (.none)) S P E := by
  unfold gIsi
  rw [show tyName (.none) = some "NoneType" from rfl, Option.bind_some, kb_NoneType_int]
  exact H
theorem w_is_int_t (H : P (.bool false) S) : W (gIsi "int" (.tuple ds)) S P E := by
  unfold gIsi
  rw [show tyName (.tuple ds) = some "tuple" from rfl, Option.bind_some, kb_tuple_int]
  exact H
theorem w_is_int_l (H : P (.bool false) S) : W (gIsi "int" (.list ds)) S P E := by
  unfold gIsi
  rw [show tyName (.list ds) = some "list" from rfl, Option.bind_some, kb_list_int]
  exact H
theorem w_is_bool_i (H : P (.bool false) S) : W (gIsi "bool" (.int i)) S P E := by
  unfold gIsi
  rw [show tyName (.int i) = some "int" from rfl, Option.bind_some, kb_int_bool]
  exact H
theorem w_is_bool_b (H : P (.bool true) S) : W (gIsi "bool" (.bool c)) S P E := by
  unfold gIsi
  rw [show tyName (.bool c) = some "bool" from rfl, Option.bind_some, kb_bool_bool]
  exact H
theorem w_is_bool_s (H : P (.bool false) S) : W (gIsi "bool" (.str x)) S P E := by
  unfold gIsi
  rw [show tyName (.str x) = some "str" from rfl, Option.bind_some, kb_str_bool]
  exact H
theorem w_is_bool_n (H : P (.bool false) S) : W (gIsi "bool" (.none)) S P E := by
  unfold gIsi
  rw [show tyName (.none) = some "NoneType" from rfl, Option.bind_some, kb_NoneType_bool]
  exact H
theorem w_is_bool_t (H : P (.bool false) S) : W (gIsi "bool" (.tuple ds)) S P E := by
  unfold gIsi
  rw [show tyName (.tuple ds) = some "tuple" from rfl, Option.bind_some, kb_tuple_bool]
  exact H
theorem w_is_bool_l (H : P (.bool false) S) : W (gIsi "bool" (.list ds)) S P E := by
  unfold gIsi
  rw [show tyName (.list ds) = some "list" from rfl, Option.bind_some, kb_list_bool]
  exact H
theorem w_is_str_i (H : P (.bool false) S) : W (gIsi "str" (.int i)) S P E := by
  unfold gIsi
  rw [show tyName (.int i) = some "int" from rfl, Option.bind_some, kb_int_str]
  exact H
theorem w_is_str_b (H : P (.bool false) S) : W (gIsi "str" (.bool c)) S P E := by
  unfold gIsi
  rw [show tyName (.bool c) = some "bool" from rfl, Option.bind_some, kb_bool_str]
  exact H
theorem w_is_str_s (H : P (.bool true) S) : W (gIsi "str" (.str x)) S P E := by
  unfold gIsi
  rw [show tyName (.str x) = some "str" from rfl, Option.bind_some, kb_str_str]
  exact H
theorem w_is_str_n (H : P (.bool false) S) : W (gIsi "str" (.none)) S P E := by
  unfold gIsi
  rw [show tyName (.none) = some "NoneType" from rfl, Option.bind_some, kb_NoneType_str]
  exact H
theorem w_is_str_t (H : P (.bool false) S) : W (gIsi "str" (.tuple ds)) S P E := by
  unfold gIsi
  rw [show tyName (.tuple ds) = some "tuple" from rfl, Option.bind_some, kb_tuple_str]
  exact H
theorem w_is_str_l (H : P (.bool false) S) : W (gIsi "str" (.list ds)) S P E := by
  unfold gIsi
  rw [show tyName (.list ds) = some "list" from rfl, Option.bind_some, kb_list_str]
  exact H
theorem w_is_list_i (H : P (.bool false) S) : W (gIsi "list" (.int i)) S P E := by
  unfold gIsi
  rw [show tyName (.int i) = some "int" from rfl, Option.bind_some, kb_int_list]
  exact H
theorem w_is_list_b (H : P (.bool false) S) : W (gIsi "list" (.bool c)) S P E := by
  unfold gIsi
  rw [show tyName (.bool c) = some "bool" from rfl, Option.bind_some, kb_bool_list]
  exact H
theorem w_is_list_s (H : P (.bool false) S) : W (gIsi "list" (.str x)) S P E := by
  unfold gIsi
  rw [show tyName (.str x) = some "str" from rfl, Option.bind_some, kb_str_list]
  exact H
theorem w_is_list_n (H : P (.bool false) S) : W (gIsi "list" (.none)) S P E := by
  unfold gIsi
  rw [show tyName (.none) = some "NoneType" from rfl, Option.bind_some, kb_NoneType_list]
  exact H
theorem w_is_list_t (H : P (.bool false) S) : W (gIsi "list" (.tuple ds)) S P E := by
  unfold gIsi
  rw [show tyName (.tuple ds) = some "tuple" from rfl, Option.bind_some, kb_tuple_list]
  exact H
theorem w_is_list_l (H : P (.bool true) S) : W (gIsi "list" (.list ds)) S P E := by
  unfold gIsi
  rw [show tyName (.list ds) = some "list" from rfl, Option.bind_some, kb_list_list]
  exact H
theorem w_is_tuple_i (H : P (.bool false) S) : W (gIsi "tuple" (.int i)) S P E := by
  unfold gIsi
  rw [show tyName (.int i) = some "int" from rfl, Option.bind_some, kb_int_tuple]
  exact H
theorem w_is_tuple_b (H : P (.bool false) S) : W (gIsi "tuple" (.bool c)) S P E := by
  unfold gIsi
  rw [show tyName (.bool c) = some "bool" from rfl, Option.bind_some, kb_bool_tuple]
  exact H
theorem w_is_tuple_s (H : P (.bool false) S) : W (gIsi "tuple" (.str x)) S P E := by
  unfold gIsi
  rw [show tyName (.str x) = some "str" from rfl, Option.bind_some, kb_str_tuple]
  exact H
theorem w_is_tuple_n (H : P (.bool false) S) : W (gIsi "tuple" (.none)) S P E := by
  unfold gIsi
  rw [show tyName (.none) = some "NoneType" from rfl, Option.bind_some, kb_NoneType_tuple]
  exact H
theorem w_is_tuple_t (H : P (.bool true) S) : W (gIsi "tuple" (.tuple ds)) S P E := by
  unfold gIsi
  rw [show tyName (.tuple ds) = some "tuple" from rfl, Option.bind_some, kb_tuple_tuple]
  exact H
theorem w_is_tuple_l (H : P (.bool false) S) : W (gIsi "tuple" (.list ds)) S P E := by
  unfold gIsi
  rw [show tyName (.list ds) = some "list" from rfl, Option.bind_some, kb_list_tuple]
  exact H
theorem w_is_int_ok (e : okD k d = true) (H : P (.bool (isTy "int" d)) S) : W (gIsi "int" d) S P E := by rw [isi_int e]; exact H
theorem w_is_bool_ok (e : okD k d = true) (H : P (.bool (isTy "bool" d)) S) : W (gIsi "bool" d) S P E := by rw [isi_bool e]; exact H
theorem w_is_str_ok (e : okD k d = true) (H : P (.bool (isTy "str" d)) S) : W (gIsi "str" d) S P E := by rw [isi_str e]; exact H
theorem w_is_list_ok (e : okD k d = true) (H : P (.bool (isTy "list" d)) S) : W (gIsi "list" d) S P E := by rw [isi_list e]; exact H
theorem w_is_tuple_ok (e : okD k d = true) (H : P (.bool (isTy "tuple" d)) S) : W (gIsi "tuple" d) S P E := by rw [isi_tuple e]; exact H
theorem w_add (H : P (.int (i + j)) S) : W (gAdd (.int i) (.int j)) S P E := H
theorem w_addT (e : ds.length + es.length ≤ 1000000) (H : P (.tuple (ds ++ es)) S) : W (gAdd (.tuple ds) (.tuple es)) S P E := by rw [gAdd_tt, if_pos e]; exact H
theorem w_addL (e : ds.length + es.length ≤ 1000000) (H : P (.list (ds ++ es)) S) : W (gAdd (.list ds) (.list es)) S P E := by rw [gAdd_ll, if_pos e]; exact H
theorem w_addC (e : ds.length + es.length ≤ 1000000) (H : W (newCell (ds ++ es)) S P E) : W (gAddC (.list ds) (.list es)) S P E := by rw [gAddC_ll, if_pos e]; exact H
theorem w_sub (H : P (.int (i - j)) S) : W (gSub (.int i) (.int j)) S P E := H
theorem w_addB (H : P (.int (b2n c + j)) S) : W (gAdd (.bool c) (.int j)) S P E := H
theorem w_subB (H : P (.int (b2n c - j)) S) : W (gSub (.bool c) (.int j)) S P E := H
theorem w_mul (e : small i = true) (e2 : small j = true) (H : P (.int (i * j)) S) : W (gMul (.int i) (.int j)) S P E := by rw [gMul_ii, if_pos ⟨e, e2⟩]; exact H
theorem w_div (e : 0 < j) (e2 : small j = true) (H : P (.int (i / j)) S) : W (gDiv (.int i) (.int j)) S P E := by rw [gDiv_ii, if_pos ⟨e, e2⟩]; exact H
theorem w_mod (e : 0 < j) (H : P (.int (i % j)) S) : W (gMod (.int i) (.int j)) S P E := by rw [gMod_ii, if_pos e]; exact H
theorem w_cmp {q : Int → Int → Bool} (H : P (.bool (q i j)) S) : W (gCmp q (.int i) (.int j)) S P E := H
theorem w_neg (H : P (.int (-i)) S) : W (gNeg (.int i)) S P E := H
theorem w_abs (H : P (.int (if i < 0 then -i else i)) S) : W (gAbs (.int i)) S P E := H
theorem w_int (H : P (.int i) S) : W (gInt (.int i)) S P E := H
theorem w_max (H : P (.int (if j > i then j else i)) S) : W (gMax2 (.int i) (.int j)) S P E := H
theorem w_min (H : P (.int (if j < i then j else i)) S) : W (gMin2 (.int i) (.int j)) S P E := H
theorem w_eqi (H : P (.bool (decide (i = j))) S) : W (gEq (.int i) (.int j)) S P E := by rw [gEq_ii]; exact H
theorem w_nei (H : P (.bool (!decide (i = j))) S) : W (gNe (.int i) (.int j)) S P E := by rw [gNe_ii]; exact H
theorem w_eqd (e : okD 64 a = true) (e2 : okD 64 b = true) (H : P (.bool (eqD a b)) S) : W (gEq a b) S P E := by rw [gEq_ok e e2]; exact H
theorem w_ned (e : okD 64 a = true) (e2 : okD 64 b = true) (H : P (.bool (!eqD a b)) S) : W (gNe a b) S P E := by rw [gNe_ok e e2]; exact H
theorem w_isB_ttt (H : P (.bool false) S) : W (gIs true (.bool true) (.bool true)) S P E := H
theorem w_isB_ttf (H : P (.bool true) S) : W (gIs true (.bool true) (.bool false)) S P E := H
theorem w_isB_tft (H : P (.bool true) S) : W (gIs true (.bool false) (.bool true)) S P E := H
theorem w_isB_tff (H : P (.bool false) S) : W (gIs true (.bool false) (.bool false)) S P E := H
theorem w_isN_tn (H : P (.bool false) S) : W (gIs true (.none) .none) S P E := H
theorem w_isN_tt (H : P (.bool true) S) : W (gIs true (.tuple ds) .none) S P E := H
theorem w_isN_tl (H : P (.bool true) S) : W (gIs true (.list ds) .none) S P E := H
theorem w_isN_ti (H : P (.bool true) S) : W (gIs true (.int i) .none) S P E := H
theorem w_isN_ts (H : P (.bool true) S) : W (gIs true (.str x) .none) S P E := H
theorem w_isN_tb (H : P (.bool true) S) : W (gIs true (.bool c) .none) S P E := H
theorem w_isB_ftt (H : P (.bool true) S) : W (gIs false (.bool true) (.bool true)) S P E := H
theorem w_isB_ftf (H : P (.bool false) S) : W (gIs false (.bool true) (.bool false)) S P E := H
theorem w_isB_fft (H : P (.bool false) S) : W (gIs false (.bool false) (.bool true)) S P E := H
theorem w_isB_fff (H : P (.bool true) S) : W (gIs false (.bool false) (.bool false)) S P E := H
theorem w_isN_fn (H : P (.bool true) S) : W (gIs false (.none) .none) S P E := H
theorem w_isN_ft (H : P (.bool false) S) : W (gIs false (.tuple ds) .none) S P E := H
theorem w_isN_fl (H : P (.bool false) S) : W (gIs false (.list ds) .none) S P E := H
theorem w_isN_fi (H : P (.bool false) S) : W (gIs false (.int i) .none) S P E := H
theorem w_isN_fs (H : P (.bool false) S) : W (gIs false (.str x) .none) S P E := H
theorem w_isN_fb (H : P (.bool false) S) : W (gIs false (.bool c) .none) S P E := H
theorem w_isN {ng : Bool} (H : P (.bool (ng ^^ isNone a)) S) : W (gIs ng a .none) S P E := H
theorem w_isB {ng q : Bool} (H : P (.bool (ng ^^ decide (c = q))) S) : W (gIs ng (.bool c) (.bool q)) S P E := H
theorem w_ixt (e : atI ds i = some d) (H : P d S) : W (gIx (.tuple ds) (.int i)) S P E := by rw [gIx_t, e]; exact H
theorem w_ixl (e : atI ds i = some d) (H : P d S) : W (gIx (.list ds) (.int i)) S P E := by rw [gIx_l, e]; exact H
theorem w_ixf (e : atI ds i = some d) (H : P d S) : W (gIx (.frz ds) (.int i)) S P E := by rw [gIx_f, e]; exact H
theorem w_len_t (H : P (.int ds.length) S) : W (gLen (.tuple ds)) S P E := H
theorem w_len_l (H : P (.int ds.length) S) : W (gLen (.list ds)) S P E := H
theorem w_len_f (H : P (.int ds.length) S) : W (gLen (.frz ds)) S P E := H
theorem w_tup_t (H : P (.tuple ds) S) : W (gTuple (.tuple ds)) S P E := H
theorem w_tup_l (H : P (.tuple ds) S) : W (gTuple (.list ds)) S P E := H
theorem w_lis_t (H : P (.list ds) S) : W (gList (.tuple ds)) S P E := H
theorem w_lis_l (H : P (.list ds) S) : W (gList (.list ds)) S P E := H
theorem w_rev (H : P (.tuple ds.reverse) S) : W (gRevT (.tuple ds)) S P E := H
theorem w_eSl {lo hi : BO} (H : W (f env) S (fun a S1 => W (lo env) S1 (fun l S2 => W (hi env) S2 (fun r S3 => W (rd a) S3 (fun a S4 => W (gSl a l r) S4 P E) E) E) E) E) : W (eSl f lo hi env) S P E := by rw [eSl_ap, W_bind]; simpa only [W_bind] using H
theorem w_oNone (H : PO none S) : W (oNone env) S PO E := H
theorem w_oSome (H : W (f env) S (fun a S1 => W (toInt a) S1 PO E) E) : W (oSome f env) S PO E := by rw [oSome_ap, W_bind]; exact H
theorem w_toInt (H : PO (some i) S) : W (toInt (.int i)) S PO E := H
theorem w_sl_t {lo hi : Option Int} (H : P (.tuple (cutD ds lo hi)) S) : W (gSl (.tuple ds) lo hi) S P E := H
theorem w_sl_l {lo hi : Option Int} (H : P (.list (cutD ds lo hi)) S) : W (gSl (.list ds) lo hi) S P E := H
theorem w_eApp (H : W (f env) S (fun a S1 => W (isCell a) S1 (fun _ S2 => W (g env) S2 (fun y S3 => W (push a y) S3 P E) E) E) E) : W (eApp f g env) S P E := by rw [eApp_ap, W_bind]; simpa only [W_bind] using H
theorem w_ePop (H : W (f env) S (fun a S1 => W (isCell a) S1 (fun _ S2 => W (g env) S2 (fun y S3 => W (popAt a y) S3 P E) E) E) E) : W (ePop f g env) S P E := by rw [ePop_ap, W_bind]; simpa only [W_bind] using H
theorem w_isCell {PU : Unit → Store → Prop} (H : PU () S) : W (isCell (.cell n)) S PU E := H
theorem w_push (e : S[n]? = some (.lst ds)) (hf : fixD d = true) (hl : ds.length < 1000000) (H : P .none (S.set n (.lst (ds ++ [d])))) : W (push (.cell n) d) S P E := by rw [W_push e hf hl]; exact H
theorem w_eLc {vs : List Nat} {it : BI} {tg : Tg} {tt : BT} (H : W (it env) S (fun p S1 => W (runLc tg tt f (wipeE env vs) p) S1 (fun ds S2 => P (.list ds) S2) E) E) : W (eLc vs it tg tt f env) S P E := by rw [eLc_ap, W_bind]; simpa only [W_bind, W_pure] using H
theorem w_iSeq (H : W (f env) S (fun a S1 => W (toIts a) S1 PI E) E) : W (iSeq f env) S PI E := by rw [iSeq_ap, W_bind]; exact H
theorem w_its_t (H : PI ⟨ds, fun _ => true⟩ S) : W (toIts (.tuple ds)) S PI E := H
theorem w_its_l (H : PI ⟨ds, fun _ => true⟩ S) : W (toIts (.list ds)) S PI E := H
theorem w_iZp (H : W (f env) S (fun a S1 => W (g env) S1 (fun b S2 => W (toZip a b) S2 PI E) E) E) : W (iZp f g env) S PI E := by rw [iZp_ap, W_bind]; simpa only [W_bind] using H
theorem w_zip_tt (H : PI ⟨pairDs ds es, fun _ => true && true⟩ S) : W (toZip (.tuple ds) (.tuple es)) S PI E := H
theorem w_zip_ll (H : PI ⟨pairDs ds es, fun _ => true && true⟩ S) : W (toZip (.list ds) (.list es)) S PI E := H
theorem w_iRg (H : W (f env) S (fun a S1 => W (toRng a) S1 PI E) E) : W (iRg f env) S PI E := by rw [iRg_ap, W_bind]; exact H
theorem w_rng (e : 0 ≤ i ∧ i ≤ 1000000) (H : PI ⟨rangeDs 0 i.toNat, fun _ => true⟩ S) : W (toRng (.int i)) S PI E := by
  obtain ⟨q, rfl⟩ : ∃ q : Nat, i = (q : Int) := ⟨i.toNat, by omega⟩
  rw [toRng_n (by omega)]
  exact H
theorem w_endB (H : P (.bool c) (S.take n)) : W (endT n (.bool c)) S P E := by rw [W_endB]; exact H
theorem w_endI (H : P (.int i) (S.take n)) : W (endT n (.int i)) S P E := by rw [W_endI]; exact H
theorem w_endN (H : P .none (S.take n)) : W (endT n .none) S P E := by rw [W_endT rfl]; exact H
theorem w_endT (e : fixDs ds = true) (H : P (.tuple ds) (S.take n)) : W (endT n (.tuple ds)) S P E := by rw [W_endT (d := .tuple ds) e]; exact H
theorem w_endL (e : fixDs ds = true) (H : P (.list ds) (S.take n)) : W (endT n (.list ds)) S P E := by rw [W_endT (d := .list ds) e]; exact H
theorem ws_nil (H : Pn env S) : WS sNil env S Pn Pr E := H
theorem ws_seq (H : WS s env S (fun v S1 => WS s' v S1 Pn Pr E) Pr E) : WS (sSeq s s') env S Pn Pr E := by rw [WS_seq]; exact H
theorem ws_set (H : W (e env) S (fun a S1 => Pn (env.set n (some a)) S1) E) : WS (sSet n e) env S Pn Pr E := by rw [WS_set]; exact H
theorem ws_expr (H : W (e env) S (fun _ S1 => Pn env S1) E) : WS (sExpr e) env S Pn Pr E := by rw [WS_expr]; exact H
theorem ws_ret (H : W (e env) S Pr E) : WS (sRet e) env S Pn Pr E := by rw [WS_ret]; exact H
theorem ws_retN (H : Pr .none S) : WS sRetN env S Pn Pr E := H
theorem ws_raise (H : E x S) : WS (sRaise x) env S Pn Pr E := H
theorem ws_if (H : W (t env) S (fun b S1 => if b = true then WS s env S1 Pn Pr E else WS s' env S1 Pn Pr E) E) : WS (sIf t s s') env S Pn Pr E := by rw [WS_if]; exact H
theorem ws_par (H : W (e env) S (fun a S1 => W (e' env) S1 (fun b S2 => Pn ((env.set n (some a)).set k (some b)) S2) E) E) : WS (sPar n k e e') env S Pn Pr E := by rw [WS_par]; exact H
theorem ws_par3 {l : Nat} (H : W (e env) S (fun a S1 => W (e' env) S1 (fun b S2 => W (e'' env) S2 (fun c S3 => Pn (((env.set n (some a)).set k (some b)).set l (some c)) S3) E) E) E) : WS (sPar3 n k l e e' e'') env S Pn Pr E := by rw [WS_par3]; exact H
theorem ws_asg {tg : Tg} (H : W (e env) S (fun a S1 => asgO Pn S1 (asg S1 tg a env)) E) : WS (sAsg tg e) env S Pn Pr E := by rw [WS_asg]; exact H
theorem ws_ao {o : Option Ev} {env1 : Ev} (e : o = some env1) (H : Pn env1 S) : asgO Pn S o := by rw [e]; exact H
theorem ws_for {it : BI} {tg : Tg} (H : W (it env) S (fun p S1 => WS (forM p.gd tg s p.ds) env S1 Pn Pr E) E) : WS (sFor it tg s) env S Pn Pr E := by rw [WS_for]; exact H
theorem if_tt {A B : Prop} (H : A) : if true = true then A else B := by simpa using H
theorem if_ff {A B : Prop} (H : B) : if false = true then A else B := by simpa using H
theorem if_ntt {A B : Prop} (H : B) : if (!true) = true then A else B := by simpa using H
theorem if_nff {A B : Prop} (H : A) : if (!false) = true then A else B := by simpa using H
theorem if_dec [Decidable p] {A B : Prop} (H : p → A) (K : ¬ p → B) : if decide p = true then A else B := by
  by_cases h : p
  · simpa [h] using H h
  · simpa [h] using K h
theorem if_ndec [Decidable p] {A B : Prop} (H : p → B) (K : ¬ p → A) : if (!decide p) = true then A else B := by
  by_cases h : p
  · simpa [h] using H h
  · simpa [h] using K h
theorem if_any {A B : Prop} (H : c = true → A) (K : c = false → B) : if c = true then A else B := by
  cases c with
  | true => simpa using H rfl
  | false => simpa using K rfl
theorem if_nany {A B : Prop} (H : c = true → B) (K : c = false → A) : if (!c) = true then A else B := by
  cases c with
  | true => simpa using H rfl
  | false => simpa using K rfl
theorem if_d1 [Decidable p] {A B : Prop} (h : p) (H : A) : if decide p = true then A else B := by simpa [h] using H
theorem if_d0 [Decidable p] {A B : Prop} (h : ¬ p) (H : B) : if decide p = true then A else B := by simpa [h] using H
theorem if_n1 [Decidable p] {A B : Prop} (h : p) (H : B) : if (!decide p) = true then A else B := by simpa [h] using H
theorem if_n0 [Decidable p] {A B : Prop} (h : ¬ p) (H : A) : if (!decide p) = true then A else B := by simpa [h] using H
theorem sm_om {i : Int} (h : -10000000000000000000000000000000000000000 ≤ i ∧ i ≤ 10000000000000000000000000000000000000000) : small i = true := by
  unfold small
  rw [decide_eq_true_iff]
  have h1 : i.natAbs ≤ 10000000000000000000000000000000000000000 := by omega
  have h2 : (10000000000000000000000000000000000000000 : Nat) < 2 ^ 4000 := by decide +kernel
  exact Nat.lt_of_le_of_lt h1 h2
theorem at_0 : atI (a :: ds) 0 = some a := at0
theorem at_1 : atI (a :: b :: ds) 1 = some b := at1
theorem at_2 {c : D} : atI (a :: b :: c :: ds) 2 = some c := at2
theorem at_3 {c c' : D} : atI (a :: b :: c :: c' :: ds) 3 = some c' := by
  unfold atI ixN
  rw [if_pos (by omega), if_pos (by simp; omega)]
  rfl
end
local macro_rules | `(tactic| trivial) => `(tactic| repeat (first
  | with_reducible refine w_bind ?_
  | with_reducible refine w_pure ?_
  | ((with_reducible apply w_var); · rfl)
  | with_reducible refine w_c ?_
  | with_reducible refine w_e2 ?_
  | with_reducible refine w_e1 ?_
  | with_reducible refine w_g2 ?_
  | with_reducible refine w_g1 ?_
  | with_reducible refine w_rd_i ?_
  | with_reducible refine w_rd_b ?_
  | with_reducible refine w_rd_s ?_
  | with_reducible refine w_rd_n ?_
  | with_reducible refine w_rd_t ?_
  | with_reducible refine w_rd_l ?_
  | with_reducible refine w_rd_f ?_
  | with_reducible refine w_rd_fn ?_
  | ((with_reducible apply w_rd_c); · assumption)
  | ((with_reducible apply w_rd_ok); · assumption)
  | with_reducible refine w_aNil ?_
  | with_reducible refine w_aCons ?_
  | with_reducible refine w_eTup ?_
  | with_reducible refine w_eLst ?_
  | with_reducible refine w_eCel ?_
  | ((with_reducible apply w_new); · first | rfl | assumption | (simp; done))
  | ((with_reducible apply len_ok); · rfl)
  | with_reducible refine w_eCall ?_
  | ((with_reducible apply len_eq); · rfl)
  | with_reducible refine w_eCB ?_
  | with_reducible refine w_c1 ?_
  | with_reducible refine w_c2 ?_
  | with_reducible refine w_eAnd ?_
  | with_reducible refine w_eOr ?_
  | with_reducible refine w_eNot ?_
  | with_reducible refine w_toBool ?_
  | with_reducible refine w_eIf ?_
  | with_reducible refine w_bTru ?_
  | with_reducible refine w_tru_b ?_
  | with_reducible refine w_tru_n ?_
  | with_reducible refine w_tru_i ?_
  | with_reducible refine w_tru_t ?_
  | with_reducible refine w_tru_l ?_
  | with_reducible refine w_tB1 ?_
  | with_reducible refine w_oB ?_
  | with_reducible refine w_bNot ?_
  | with_reducible refine w_bAnd ?_
  | with_reducible refine w_bOr ?_
  | with_reducible refine w_bYes ?_
  | with_reducible refine w_eChain ?_
  | with_reducible refine w_eIsi ?_
  | (first | with_reducible refine w_is_int_i ?_ | with_reducible refine w_is_int_t ?_ | with_reducible refine w_is_int_s ?_ | with_reducible refine w_is_int_n ?_ | with_reducible refine w_is_int_l ?_ | with_reducible refine w_is_int_b ?_)
  | ((with_reducible apply w_is_int_ok); · assumption)
  | (first | with_reducible refine w_is_bool_i ?_ | with_reducible refine w_is_bool_t ?_ | with_reducible refine w_is_bool_s ?_ | with_reducible refine w_is_bool_n ?_ | with_reducible refine w_is_bool_l ?_ | with_reducible refine w_is_bool_b ?_)
  | ((with_reducible apply w_is_bool_ok); · assumption)
  | (first | with_reducible refine w_is_str_i ?_ | with_reducible refine w_is_str_t ?_ | with_reducible refine w_is_str_s ?_ | with_reducible refine w_is_str_n ?_ | with_reducible refine w_is_str_l ?_ | with_reducible refine w_is_str_b ?_)
  | ((with_reducible apply w_is_str_ok); · assumption)
  | (first | with_reducible refine w_is_list_i ?_ | with_reducible refine w_is_list_t ?_ | with_reducible refine w_is_list_s ?_ | with_reducible refine w_is_list_n ?_ | with_reducible refine w_is_list_l ?_ | with_reducible refine w_is_list_b ?_)
  | ((with_reducible apply w_is_list_ok); · assumption)
  | (first | with_reducible refine w_is_tuple_i ?_ | with_reducible refine w_is_tuple_t ?_ | with_reducible refine w_is_tuple_s ?_ | with_reducible refine w_is_tuple_n ?_ | with_reducible refine w_is_tuple_l ?_ | with_reducible refine w_is_tuple_b ?_)
  | ((with_reducible apply w_is_tuple_ok); · assumption)
  | with_reducible refine w_add ?_
  | ((with_reducible apply w_addT); · first | omega | (simp; omega) | (simp; done))
  | ((with_reducible apply w_addL); · first | omega | (simp; omega) | (simp; done))
  | ((with_reducible apply w_addC); · first | omega | (simp; omega) | (simp; done))
  | with_reducible refine w_sub ?_
  | with_reducible refine w_addB ?_
  | with_reducible refine w_subB ?_
  | ((with_reducible apply w_mul); (· (first | assumption | (refine sm_om ?_; omega))); · (first | assumption | (refine sm_om ?_; omega)))
  | ((with_reducible apply w_div); (· omega); · (first | assumption | (refine sm_om ?_; omega)))
  | ((with_reducible apply w_mod); · first | omega | assumption)
  | with_reducible refine w_cmp ?_
  | with_reducible refine w_neg ?_
  | with_reducible refine w_abs ?_
  | with_reducible refine w_int ?_
  | with_reducible refine w_max ?_
  | with_reducible refine w_min ?_
  | with_reducible refine w_eqi ?_
  | with_reducible refine w_nei ?_
  | ((with_reducible apply w_eqd); (· first | assumption | (simp; done) | (simp [okDs_cons']; done)); · first | assumption | (simp; done) | (simp [okDs_cons']; done))
  | ((with_reducible apply w_ned); (· first | assumption | (simp; done) | (simp [okDs_cons']; done)); · first | assumption | (simp; done) | (simp [okDs_cons']; done))
  | with_reducible refine w_isB_ttt ?_
  | with_reducible refine w_isB_ttf ?_
  | with_reducible refine w_isB_tft ?_
  | with_reducible refine w_isB_tff ?_
  | with_reducible refine w_isN_tn ?_
  | with_reducible refine w_isN_tt ?_
  | with_reducible refine w_isN_tl ?_
  | with_reducible refine w_isN_ti ?_
  | with_reducible refine w_isN_ts ?_
  | with_reducible refine w_isN_tb ?_
  | with_reducible refine w_isB_ftt ?_
  | with_reducible refine w_isB_ftf ?_
  | with_reducible refine w_isB_fft ?_
  | with_reducible refine w_isB_fff ?_
  | with_reducible refine w_isN_fn ?_
  | with_reducible refine w_isN_ft ?_
  | with_reducible refine w_isN_fl ?_
  | with_reducible refine w_isN_fi ?_
  | with_reducible refine w_isN_fs ?_
  | with_reducible refine w_isN_fb ?_
  | with_reducible refine w_isN ?_
  | with_reducible refine w_isB ?_
  | ((with_reducible apply w_ixt); · first | exact at_0 | exact at_1 | exact at_2 | exact at_3 | assumption)
  | ((with_reducible apply w_ixl); · first | exact at_0 | exact at_1 | exact at_2 | exact at_3 | assumption)
  | ((with_reducible apply w_ixf); · first | exact at_0 | exact at_1 | exact at_2 | exact at_3 | assumption)
  | with_reducible refine w_len_t ?_
  | with_reducible refine w_len_l ?_
  | with_reducible refine w_len_f ?_
  | with_reducible refine w_tup_t ?_
  | with_reducible refine w_tup_l ?_
  | with_reducible refine w_lis_t ?_
  | with_reducible refine w_lis_l ?_
  | with_reducible refine w_rev ?_
  | with_reducible refine w_eSl ?_
  | with_reducible refine w_oNone ?_
  | with_reducible refine w_oSome ?_
  | with_reducible refine w_toInt ?_
  | with_reducible refine w_sl_t ?_
  | with_reducible refine w_sl_l ?_
  | with_reducible refine w_eApp ?_
  | with_reducible refine w_ePop ?_
  | with_reducible refine w_isCell ?_
  | with_reducible refine w_eLc ?_
  | with_reducible refine w_iSeq ?_
  | with_reducible refine w_its_t ?_
  | with_reducible refine w_its_l ?_
  | with_reducible refine w_iZp ?_
  | with_reducible refine w_zip_tt ?_
  | with_reducible refine w_zip_ll ?_
  | with_reducible refine w_iRg ?_
  | ((with_reducible apply w_rng); · first | omega | (simp; omega) | (simp; done))
  | with_reducible refine w_endB ?_
  | with_reducible refine w_endI ?_
  | with_reducible refine w_endN ?_
  | ((with_reducible apply w_endT); · first | rfl | assumption | (simp; done))
  | ((with_reducible apply w_endL); · first | rfl | assumption | (simp; done))
  | with_reducible refine ws_nil ?_
  | with_reducible refine ws_seq ?_
  | with_reducible refine ws_set ?_
  | with_reducible refine ws_expr ?_
  | with_reducible refine ws_ret ?_
  | with_reducible refine ws_retN ?_
  | with_reducible refine ws_raise ?_
  | with_reducible refine ws_if ?_
  | with_reducible refine ws_par ?_
  | with_reducible refine ws_par3 ?_
  | with_reducible refine ws_asg ?_
  | ((with_reducible apply ws_ao); · rfl)
  | with_reducible refine ws_for ?_
  | with_reducible refine if_tt ?_
  | with_reducible refine if_ff ?_
  | with_reducible refine if_ntt ?_
  | with_reducible refine if_nff ?_
  | ((with_reducible apply if_d1); · first | assumption | omega)
  | ((with_reducible apply if_d0); · first | assumption | omega)
  | ((with_reducible apply if_n1); · first | assumption | omega)
  | ((with_reducible apply if_n0); · first | assumption | omega)))
end Z
end
section
set_option maxHeartbeats 4000000
/-! Lambdas handed to defs that call them within lambdas of their own: the base is laid anew. -/
namespace Z
open PySem PySem.Spec PyProof.Rows L2 LamX NdefX

/-- what is there, less what is tracked and the frames -/
def reb (h : Heap) (H : Hp) (l : List Env) : Heap := PySem.W.hideAll h (trk h H ++ frs l)
theorem reb_get {h : Heap} {H : Hp} {l : List Env} {b : Addr} {o : Obj} (e : h.get? b = some o) (n : H b = none) (f : b ∉ frs l) : (reb h H l).get? b = some o :=
  PySem.W.hideAll_get _ e fun hm => by
    rcases List.mem_append.mp hm with hm | hm
    · have q : (H b).isSome = true := (List.mem_filter.mp hm).2
      rw [n] at q; simp at q
    · exact f hm
theorem of_reb {h : Heap} {H : Hp} {l : List Env} {b : Addr} {o : Obj} (e : (reb h H l).get? b = some o) : h.get? b = some o ∧ H b = none ∧ b ∉ frs l := by
  have e' : h.get? b = some o := PySem.W.of_hideAll _ e
  refine ⟨e', ?_, fun hm => ?_⟩
  · cases q : H b with
    | none => rfl
    | some x =>
      have hm : b ∈ trk h H := List.mem_filter.mpr ⟨List.mem_range.mpr (Heap.lt_size e'), by simp [q]⟩
      have z : (reb h H l).get? b = none := PySem.W.hideAll_none _ (List.mem_append_left _ hm)
      rw [z] at e; cases e
  · have z : (reb h H l).get? b = none := PySem.W.hideAll_none _ (List.mem_append_right _ hm)
    rw [z] at e; cases e
theorem reb_frame {h : Heap} {H : Hp} {l : List Env} {b : Addr} (f : b ∈ frs l) : (reb h H l).get? b = none := PySem.W.hideAll_none _ (List.mem_append_right _ f)
theorem reb_size (h : Heap) (H : Hp) (l : List Env) : (reb h H l).objs.size = h.objs.size := PySem.W.hideAll_size _ _
theorem funs_reb {h base : Heap} {H : Hp} {l : List Env} : ∀ {m : List Env}, (∀ e ∈ m, e ∈ l) → h.FunFrames base m → h.FunFrames (reb h H l) m
  | [], _, _ => trivial
  | env :: rest, hs, ⟨hk, ⟨L, o, hf, hn, ho, hd⟩, hr⟩ =>
    ⟨hk, ⟨L, o, hf, reb_frame (List.mem_filterMap.mpr ⟨env, hs env List.mem_cons_self, hf⟩), ho, hd⟩, funs_reb (fun e he => hs e (List.mem_cons_of_mem _ he)) hr⟩
section
variable {X : Cx} {pins : List (Addr × Obj)} {σ : L2.St} {H : Hp} {s : Shared}
theorem reb_base (I : Inv X pins σ H s) : ∀ b o, X.base.get? b = some o → (reb s.heap H X.stack).get? b = some o := fun b o e =>
  reb_get (I.bs b o e).1 (I.bs b o e).2 fun hb => by
    have := (I.stack.mem hb).1
    rw [e] at this; cases this
theorem env0_reb (I : Inv X pins σ H s) : Env0 X.prog X.w X.K X.mg (reb s.heap H X.stack) X.A X.stack s H := by
  have e := I.env0
  have k := reb_base I
  obtain ⟨mb, h1, h2⟩ := e.mod.blt
  have ok := I.ok
  refine ⟨e.frames, ⟨e.mod.kin.keeps k, e.mod.glob.keeps k, ⟨mb, h1.keeps k, h2⟩, e.mod.nolimit.keeps k⟩, fun b o q => ⟨(of_reb q).1, (of_reb q).2.1⟩, by rw [reb_size]; exact Nat.le_refl _, funs_reb (fun _ h => h) e.funs, e.frf, e.hok, e.bare⟩
end
/-- the promise of the lambda at f, which lies in the base -/
structure LamB (P : Program) (w : World) (K : PySem.W.Frag) (mg : Str → Option Value) (base : Heap) (T : Tb) (k : Nat) (f : Addr) (n : Nat) (g : List D → M D) : Prop where
  obj : ∀ h : Heap, (∀ b o, base.get? b = some o → h.get? b = some o) → PySem.W.FnAt f h
  run : ∀ (A : Around) (outer : List Env) (s1 : Shared) (H1 : Hp) (us : List Value) (vs : List V) (Q : VK) (E : XK), Room k A → Env0 P w K mg base A outer s1 H1 → Vals vs us →
    (∃ ds S O, ds.length = n ∧ Rps K mg O.cs (hide O H1) vs ds ∧ SOk K mg T O H1 S ∧ Po K mg T (Rp K mg) (g ds S) O H1 Q E) →
    codeAny (model P w) A (.call (.ref f) ⟨us, []⟩) (CR (L2N.CX P w) outer P w H1 s1 Q E) s1
theorem LamB.mono {P : Program} {w : World} {K : PySem.W.Frag} {mg : Str → Option Value} {base : Heap} {T : Tb} {j k : Nat} {f : Addr} {n : Nat} {g : List D → M D} (F : LamB P w K mg base T j f n g) (h : j ≤ k) : LamB P w K mg base T k f n g :=
  ⟨F.obj, fun A outer s1 H1 us vs Q E hr => F.run A outer s1 H1 us vs Q E (hr.mono h)⟩
section
variable {X : Cx} {pins : List (Addr × Obj)} {σ : L2.St} {H : Hp} {s : Shared} {T : Tb} {O : Ow}
theorem lam_b {N ps fr : List Str} {js : List Nat} {cl : List (Str × Addr)} {q : Str} {params : Arguments} {body : Expr} {scope : Scope} {pm ctv : Value} {f c' : Addr} {env : Ev} {fb : BE} {k : Nat} (I : Inv X pins σ H s) (re : REnv X.K X.mg O.cs (hide O H) σ env) (cp : Caps X cl fr js)
    (hf : s.heap.get? f = some (PySem.W.kla_obj "<lambda>" q params body scope cl pm c' ctv)) (hfn : H f = none) (hfr : f ∉ frs X.stack) (hc : hide O H c' = some (CodeO c' q)) (Sn : NScope N ps fr scope)
    (hcl : ∀ y c, cl.lookup y = some c → c ∉ frs X.stack)
    (hbind : ∀ us : List Value, us.length = ps.length → bindArgs (PySem.W.kla_fn "<lambda>" q params body scope cl pm (.ref c') ctv) ⟨us, []⟩ = pure (ps.zip us))
    (hb : ∀ (base : Heap) (A : Around) (outer : List Env) (s : Shared) (H : Hp) (E : XK), Cok (ncx (L2N.CX X.prog X.w) X.prog X.w X.K X.mg base N ⟨"<lambda>", q, params, [], scope, cl, c'⟩ f A outer s H E) (fun _ => E) k → DE (ncx (L2N.CX X.prog X.w) X.prog X.w X.K X.mg base N ⟨"<lambda>", q, params, [], scope, cl, c'⟩ f A outer s H E) T (fun _ => E) body fb) :
    LamB X.prog X.w X.K X.mg (reb s.heap H X.stack) (T.plus O H) (k + 1) f ps.length (fun as => fb (lamEv N.length js env as)) := by
  have C0 := cells_of I cp
  have fb_ := reb_get (l := X.stack) hf hfn hfr
  refine ⟨fun h1 k => ⟨_, _, _, _, k _ _ fb_⟩, fun A outer s1 H1 us vs Q E hr e0 r h => ?_⟩
  obtain ⟨ds, S, O1, hn, rs, so, qq⟩ := h
  have lw := so.inv.2
  have so : SOk X.K X.mg T O1 H1 S := so.down TLe.plus
  have of1 := (e0.bs _ _ fb_).1
  have C1 : CellsAt cl fr (js.map (slotAt σ)) s1.heap H1 := by
    have cell : ∀ {y c : _} {v : Option Value}, cl.lookup y = some c → s.heap.IsCell c v → s1.heap.IsCell c v := fun {y c v} e z => by
      obtain ⟨o, ho, hd⟩ := z
      exact ⟨o, (e0.bs _ _ (reb_get ho (C0.all y c e).1 (hcl y c e))).1, hd⟩
    refine ⟨C0.len, fun y c e => ?_, C0.inj, fun i y e => ?_⟩
    · obtain ⟨n, v, z⟩ := C0.all y c e
      obtain ⟨o, ho, hd⟩ := id z
      exact ⟨(e0.bs _ _ (reb_get ho n (hcl y c e))).2, v, cell e z⟩
    · obtain ⟨c, hc, hv⟩ := C0.has i y e
      refine ⟨c, hc, fun v ev => ?_⟩
      obtain ⟨x, r, z⟩ := hv v ev
      exact ⟨x, r, cell hc z⟩
  have hc1 : H1 c' = some (CodeO c' q) := (hide_le (lw.same _ _ hc)).2.1
  obtain ⟨⟨oc, vs0, t, hoc, hdc, hvc⟩, _, _⟩ := e0.hok c' _ hc1
  have hl : vs.length = ps.length := by rw [rs.length]; exact hn
  have lim : s1.heap.NoLimit := e0.mod.nolimit.keeps fun b o e => (e0.bs b o e).1
  refine PySem.W.kla_callFunE hr.depth of1 rfl Sn.co Sn.gen rfl ⟨c', oc, vs0, t, rfl, hoc, hdc, hvc⟩ ?_
  rw [hbind us (by rw [← r.length]; exact hl)]
  refine wpAny_pure (wpAny_newFunctionEnv Sn.nocell (fun ⟨n, _⟩ hy => Sn.par n (List.of_mem_zip hy).1) (fun h₁ hns hsb => ⟨lim.fresh _ hsb, ?_⟩) Sn.kind)
  have kp : ∀ b o, s1.heap.get? b = some o → h₁.get? b = some o := fun b o e => hsb.extBut b o (Nat.ne_of_lt (Heap.lt_size e)) (Heap.get?_push_of_some _ e)
  have J : Inv (ncx (L2N.CX X.prog X.w) X.prog X.w X.K X.mg (reb s.heap H X.stack) N ⟨"<lambda>", q, params, [], scope, cl, c'⟩ f A outer s1 H1 E) [] (startF N vs (js.map (slotAt σ))) H1 { s1 with heap := h₁, toks := s1.toks + (ps.zip us).length } :=
    inv_startN (F := ⟨"<lambda>", q, params, [], scope, cl, c'⟩) Sn hr.hd e0 hl r C1 hns kp
  have clen : js.length = fr.length := by
    have := congrArg List.length cp.at_
    simpa using this
  have hpl : ps.length + fr.length ≤ N.length := by
    have q := congrArg List.length Sn.pre
    rw [List.length_take, List.length_append] at q
    omega
  have re1 : REnv X.K X.mg O1.cs (hide O1 H1) (startF N vs (js.map (slotAt σ))) (lamEv N.length js env ds) := by
    refine ⟨by unfold startF lamEv; simp; omega, fun i d e => ?_⟩
    unfold lamEv at e
    unfold startF
    by_cases h1 : i < ds.length
    · rw [List.getElem?_append_left (by simpa using h1), List.getElem?_map] at e
      obtain ⟨d', e1, e2⟩ := Option.map_eq_some_iff.mp e
      cases e2
      obtain ⟨v, h3, h4⟩ := rs.get e1
      exact ⟨v, by rw [List.getElem?_append_left (by simp; omega), List.getElem?_map, h3]; rfl, h4⟩
    · rw [List.getElem?_append_right (by simp; omega), List.length_map] at e
      by_cases h2 : i - ds.length < js.length
      · rw [List.getElem?_append_left (by simpa using h2), List.getElem?_map] at e
        obtain ⟨j, e1, e2⟩ := Option.map_eq_some_iff.mp e
        obtain ⟨v, h3, h4⟩ := re.2 j d (by
          cases q1 : env[j]? with
          | none => rw [q1] at e2; cases e2
          | some o => rw [q1] at e2; cases e2; rfl)
        refine ⟨v, ?_, h4.mono lw.pre lw.same⟩
        rw [List.getElem?_append_right (by simp; omega), List.getElem?_append_left (by simp; omega), List.getElem?_map]
        have e3 : vs.length = ds.length := rs.length
        rw [List.length_map, e3, e1]
        exact congrArg some (slotAt_of h3)
      · rw [List.getElem?_append_right (by simp; omega), List.getElem?_replicate] at e
        split at e <;> cases e
  have qq : Po X.K X.mg T (Rp X.K X.mg) ((fun as => fb (lamEv N.length js env as)) ds S) O1 H1 Q E := Po.down (T' := T.plus O H) (by assumption) TLe.plus qq
  refine PySem.W.kla_codeExpr (wpAny_mono ((hb _ A outer s1 H1 E (cok_lam Sn (hr.deeper _))).pe.run [] _ _ H1 Q J ⟨_, S, O1, re1, so, qq⟩) (fun v s' hq => ?_) fun e s' hq => hq)
  obtain ⟨w', H', J', rv, q⟩ := hq
  exact ⟨w', H', J'.os, J'.bare, J'.base, J'.hok, rv, q⟩
end
section
variable {X : Cx} {T : Tb} {E : XKs} {k j : Nat}
theorem callB_run {f : Addr} {n : Nat} {g : List D → M D} (F : LamB X.prog X.w X.K X.mg X.base T j f n g) (c : Cok X E k) (hj : j ≤ k)
    {pins : List (Addr × Obj)} {σ : L2.St} {H : Hp} {s : Shared} {us : List Value} {vs : List V} {as : List D} {S : Store} {O : Ow} {Q : VK} (I : Inv X pins σ H s) (r : Vals vs us) (rs : Rps X.K X.mg O.cs (hide O H) vs as) (so : SOk X.K X.mg T O H S)
    (q : Po X.K X.mg T (Rp X.K X.mg) ((if as.length = n then g as else no : M D) S) O H Q (E σ)) : wpAny (model X.prog X.w) X.A (call (.ref f) us) (EP X pins σ Q) X.xe s := by
  by_cases hn : as.length = n
  · rw [if_pos hn] at q
    refine wpAny_call (codeAny_mono (F.run X.A X.stack s H us vs Q (E σ) (c.room.mono hj) I.env0 r ⟨as, S, O, hn, rs, so, q⟩) fun r s' hq => ?_)
    cases r with
    | error e => exact c.pass σ pins H s e s' I hq
    | ok fl =>
      cases fl with
      | ret u => exact I.after hq
      | next => exact False.elim hq
      | brk => exact False.elim hq
      | cont => exact False.elim hq
  · rw [if_neg hn] at q
    exact q.elim
theorem de_callLB {f : Addr} {n : Nat} {g : List D → M D} {a : Str} {v : BE} {e : Expr} {es : List Expr} {fs : BA} {p pos : Pos} (F : LamB X.prog X.w X.K X.mg X.base T j f n g) (c : Cok X E k) (hv : DE X T E (.Name a p) v) (ha : DA X T E (e :: es) fs) (hj : j ≤ k)
    (he : starEach (e :: es) X.env = (false, eval e X.env) :: starEach es X.env := by rfl) (hpl : (backTo pos (starEach es X.env)).any (·.1) = false := by rfl) :
    DE X T E (.Call (.Name a p) (e :: es) [] pos) (eCallV f n g v fs) := by
  refine ⟨⟨fun pins s σ H Q I h => ?_⟩⟩
  obtain ⟨env, S, O, re, so, q⟩ := h
  refine wpAny_Call_Name_kw (thn (hv.pe.run pins s σ H (fun x H1 => x = .ref f ∧ ∃ O1 S1, Le O H O1 H1 ∧ SOk X.K X.mg T O1 H1 S1 ∧ Po X.K X.mg T (Rp X.K X.mg) ((fs env >>= fun as => if as.length = n then g as else no) S1) O1 H1 Q (E σ)) I ⟨env, S, O, re, so, Po.bind q fun d S1 O1 H1 x l s1 r1 q1 => ?_⟩) fun u s1 ⟨x, H1, I1, r1, ev, O1, S1, l, so1, q1⟩ => ?_)
  · obtain ⟨e, q2⟩ := po_adr r1 q1
    exact ⟨e, O1, S1, l, s1, q2⟩
  · subst ev
    obtain rfl : u = Value.ref f := r1
    refine PySem.W.callWith_F (F.obj _ I1.bk) (thn (ha.pa.run pos pins s1 σ H1 (fun vs H2 => ∃ as S2 O2, Rps X.K X.mg O2.cs (hide O2 H2) vs as ∧ SOk X.K X.mg T O2 H2 S2 ∧ Po X.K X.mg T (Rp X.K X.mg) ((if as.length = n then g as else no : M D) S2) O2 H2 Q (E σ)) I1 ⟨env, S1, O1, re.mono l, so1, Po.bind q1 fun as S2 O2 H2 xs l2 s2 r2 q2 => ⟨as, S2, O2, r2, s2, q2⟩⟩) fun us s2 ⟨vs, H2, I2, r2, as, S2, O2, rs, so2, q2⟩ => ⟨F.obj _ I2.bk, ?_⟩) he hpl
    exact callB_run F c hj I2 r2 rs so2 q2
end
/-- as HFn, the lambda in a base laid anew -/
structure HFnB (P : Program) (w : World) (K : PySem.W.Frag) (mg : Str → Option Value) (base : Heap) (T : Tb) (k : Nat) (x : Str) (n m : Nat) (G : (List D → M D) → List D → M D) : Prop where
  ex : ∃ fa fd ps, mg x = some (.ref fa) ∧ PySem.W.keepIn K (.ref fa) = true ∧ Binds K fd ps [] ∧ ps.length = n + 1 ∧
    ∀ (base' : Heap) (A : Around) (outer : List Env) (s : Shared) (H : Hp) (f : Addr) (g : List D → M D) (O : Ow) (S : Store) (us : List Value) (vs : List V) (ds : List D) (Q : VK) (E : XK) (args : Args), (∀ b o, base.get? b = some o → base'.get? b = some o) → Room (k + 4) A → Env0 P w K mg base' A outer s H → LamB P w K mg base' (T.plus O H) (k + 1) f m g →
      BindsTo s fd args (ps.zip (.ref f :: us)) → Vals vs us → ds.length = n → Rps K mg O.cs (hide O H) vs ds → SOk K mg T O H S → Po K mg T (Rp K mg) (G g ds S) O H Q E → codeAny (model P w) A (.call (.ref fa) args) (CR (L2N.CX P w) outer P w H s Q E) s
section
variable {P : Program} {w : World} {K : PySem.W.Frag} {mg : Str → Option Value} {base : Heap} {T : Tb} {k : Nat} {x : Str}
theorem hfnB_def {n m : Nat} {st : Stmt} {f : Addr} {fd : FuncData} {N ps : List Str} {G : (List D → M D) → List D → M D} {ι : Type} {td : Bool} {b : ι → Addr → (List D → M D) → BS}
    (F : L2.Fun K x x st f fd) (S : FnScope N ps (defScope st)) (hm : mg x = some (.ref f)) (hb : Binds K fd ps []) (hn : ps.length = n + 1)
    (body : ∀ (base' : Heap) (i : ι) (fl : Addr) (g : List D → M D) (cdv : Value) (A : Around) (outer : List Env) (s : Shared) (H : Hp) (E : XK) (O0 : Ow), (∀ b o, base.get? b = some o → base'.get? b = some o) → fd.code = cdv → LamB P w K mg base' (T.plus O0 H) (k + 1) fl m g →
      Cok (cxOf (L2N.CX P w) P w K mg base' N x (defScope st) f cdv A outer s H E) (fun _ => E) (k + 3) → DSs (cxOf (L2N.CX P w) P w K mg base' N x (defScope st) f cdv A outer s H E) (T.plus O0 H) (fun _ => E) (defBody st) (b i fl g))
    (hg : ∀ fl g ds S0, ds.length = n → G g ds S0 ≠ .no → ∃ i, fnOf td N.length (b i fl g) (.adr fl :: ds) S0 = G g ds S0) : HFnB P w K mg base T k x n m G := by
  refine ⟨f, fd, ps, hm, F.kp, hb, hn, ?_⟩
  obtain ⟨oc, od, kV, doc, pm, an, cdv, ct, osl, rfl, lk, hcd⟩ := F.ex
  intro base' A outer s H fl g O S0 us vs ds Q E args hbb hr e0 lp hbd rv hds rs so q
  obtain ⟨i, ei⟩ := hg fl g ds S0 hds fun z => by rw [z] at q; exact q
  rw [← ei] at q
  have hpl : ps.length ≤ N.length := by have := congrArg List.length S.pre; rw [List.length_take] at this; omega
  have soP : SOk K mg (T.plus O H) O H S0 := so.up TLe.plus ⟨so.inv, Lw.refl⟩
  have rs2 : Rps K mg O.cs (hide O H) (V.ref fl :: vs) (D.adr fl :: ds) := .cons (.adr fl) rs
  refine LamX.run_ofS (us := .ref fl :: us) (vs := .ref fl :: vs) lk hcd S hr e0 hbd (.cons rfl rv) (by rw [List.length_cons, rs.length, hds, hn]) fun hr' => ?_
  have dss := body base' i fl g cdv A outer s H E O hbb rfl lp (cok_def S hr')
  refine ⟨_, dss.pss, (D.adr fl :: ds).map some ++ List.replicate (N.length - (D.adr fl :: ds).length) none, S0, O, renv_start rs2 (by rw [List.length_cons, hds]; omega), soP, ?_⟩
  have q : Po K mg (T.plus O H) (Rp K mg) (endF td S0.length (b i fl g ((D.adr fl :: ds).map some ++ List.replicate (N.length - (D.adr fl :: ds).length) none) S0)) O H Q E := Po.up TLe.plus q
  show PoS K mg (T.plus O H) (b i fl g ((D.adr fl :: ds).map some ++ List.replicate (N.length - (D.adr fl :: ds).length) none) S0) O H { nx := fun _ H' => Q .non H', rt := Q } (fun _ => E)
  cases eb : b i fl g ((D.adr fl :: ds).map some ++ List.replicate (N.length - (D.adr fl :: ds).length) none) S0 with
  | next env S' =>
    rw [eb] at q
    intro O' H' σ' l so' re
    unfold endF at q
    dsimp only at q
    split at q
    · exact q (O'.cut S0.length) H' .non (le_cut soP l) (sok_cut soP l so') .non
    · exact q O' H' .non l so' .non
  | ret d S' =>
    rw [eb] at q
    intro O' H' v l so' rv
    unfold endF at q
    dsimp only at q
    split at q
    · exact endT_ok soP l so' rv q
    · exact q O' H' v l so' rv
  | err c env S' =>
    rw [eb] at q
    exact fun O' H' σ' C l so' _ z => q O' H' C l so' z
  | brk env S' => rw [eb] at q; exact (show False from q).elim
  | cont env S' => rw [eb] at q; exact (show False from q).elim
  | no => rw [eb] at q; exact q
end
section
variable {X : Cx} {T : Tb} {E : XKs} {k j : Nat}
theorem de_hofB {n : Nat} {G : (List D → M D) → List D → M D} {N ps fr : List Str} {js : List Nat} {x : Str} {params : Arguments} {body : Expr} {scope : Scope} {es : List Expr} {fb : BE} {fs : BA} {cc Pt : Addr} {p lpos pos : Pos} (F : HFnB X.prog X.w X.K X.mg X.base T k x n ps.length G) (c : Cok X E (k + 4)) (hN : ∀ b ∈ X.fs, b ∈ frs X.stack)
    (TB : TabB X.base X.mg cc Pt) (hcode : X.env.code = .ref cc) (hmT : (Pt, X.env.qual ++ "<lambda>") ∈ T.tabs) (hu : ∀ p ∈ T.tabs, p.1 = Pt → p.2 = X.env.qual ++ "<lambda>") (Sn : NScope N ps fr scope)
    (hfree : ∀ y ∈ scope.names, y.2 = .free → X.env.scope.names.lookup y.1 = some .cell ∨ X.env.scope.names.lookup y.1 = some .free) (hown : ∀ y ∈ scope.names, y.2 = .free → X.fn y.1 = true) (hfr : ∀ y ∈ fr, (y, NameKind.free) ∈ scope.names) (hjs : js.map (fun j => X.N[j]?) = fr.map some)
    (hbind : ∀ (q : Str) (cl : List (Str × Addr)) (pm cv ctv : Value) (us : List Value), us.length = ps.length → bindArgs (PySem.W.kla_fn "<lambda>" q params body scope cl pm cv ctv) ⟨us, []⟩ = pure (ps.zip us))
    (hb : ∀ (base : Heap) (f c' : Addr) (A : Around) (outer : List Env) (s : Shared) (H : Hp) (E : XK), Cok (ncx (L2N.CX X.prog X.w) X.prog X.w X.K X.mg base N ⟨"<lambda>", X.env.qual ++ "<lambda>", params, [], scope, cloFrom X.env.cells scope.names [], c'⟩ f A outer s H E) (fun _ => E) k → DE (ncx (L2N.CX X.prog X.w) X.prog X.w X.K X.mg base N ⟨"<lambda>", X.env.qual ++ "<lambda>", params, [], scope, cloFrom X.env.cells scope.names [], c'⟩ f A outer s H E) T (fun _ => E) body fb)
    (ha : DA X T E es fs) (hdef : defaultsOf params X.env = ([], []) := by rfl) (hg : Gl X x := by rfl) (hdb : (x == ("__debug__" : Str)) = false := by decide)
    (h1 : starEach (.Lambda params body scope lpos :: es) X.env = (false, eval (.Lambda params body scope lpos) X.env) :: starEach es X.env := by rfl) (hpl : (backTo pos (starEach es X.env)).any (·.1) = false := by rfl) :
    DE X T E (.Call (.Name x p) (.Lambda params body scope lpos :: es) [] pos) (eHof n N.length js fb G fs) := by
  obtain ⟨fa, fd, psx, hm, hk, hbd, hps, run⟩ := F.ex
  refine ⟨⟨fun pins s σ H Q I h => ?_⟩⟩
  obtain ⟨env, S, O, re, so, q⟩ := h
  refine wpAny_Call_Name_kw (ld_glob I hg hm ?_ hdb)
  refine PySem.W.callWith_K (h₀ := X.base) I.ok.mod.kin hk ?_ h1 hpl
  rw [h1]
  have hcf : ∀ y ∈ scope.names, y.2 = .free → ∃ c, X.env.cells.lookup y.1 = some c := fun y hy e => (hfree y hy e).elim (fun z => I.ok.has _ (.inl z)) fun z => I.ok.has _ (.inr z)
  refine Calls.spliced_cons (lam_make2 I TB hcode hmT hu so.tabs hdef hcf fun f c' pm' ctv H1 s' I1 eN T1 hf hfn hfr' hco => ?_)
  have l1 : Le O H O H1 := Le.ext eN
  have so1 : SOk X.K X.mg T O H1 S := sok_ext so eN T1
  have re1 := re.mono l1
  have hcH := code_hide so1 hco
  have nL : f ≠ X.env.locals := fun z => by
    obtain ⟨m, ⟨ob, es0, ep, ho, hd0, _⟩, _⟩ := I1.loc
    rw [← z, hf] at ho
    cases ho
    cases hd0
  have nS : f ∉ X.fs := fun z => hfr' (hN f z)
  have I2 : Inv X ((f, PySem.W.kla_obj "<lambda>" (X.env.qual ++ "<lambda>") params body scope (cloFrom X.env.cells scope.names []) pm' c' ctv) :: pins) σ H1 s' := I1.pins_of fun p hp => by
    rcases List.mem_cons.mp hp with e | hp
    · subst e
      exact ⟨hf, hfn, nL, nS, fun v z => by cases z⟩
    · exact I1.pin p (List.mem_append_right _ hp)
  refine thn (ha.pa.run pos _ s' σ H1 (fun vs H2 => ∃ ds S2 O2, Le O H1 O2 H2 ∧ Rps X.K X.mg O2.cs (hide O2 H2) vs ds ∧ SOk X.K X.mg T O2 H2 S2 ∧ Po X.K X.mg T (Rp X.K X.mg) ((if ds.length = n then G (fun as => fb (lamEv N.length js env as)) ds else no : M D) S2) O2 H2 Q (E σ)) I2 ⟨env, S, O, re1, so1, Po.bind (Po.le q l1) fun ds S2 O2 H2 xs l2 s2 r2 q2 => ⟨ds, S2, O2, l2, r2, s2, q2⟩⟩) fun us s2 ⟨vs, H2, I3, rv, ds, S2, O2, l2, rs, so2, q2⟩ => ⟨I3.kIn, ?_⟩
  by_cases hn : ds.length = n
  · rw [if_pos hn] at q2
    have P1 := I3.pin (f, _) (List.mem_append_right _ List.mem_cons_self)
    have I4 : Inv X pins σ H2 s2 := I3.pins_of fun p hp => I3.pin p (List.mem_append_right _ (List.mem_cons_of_mem _ hp))
    have hcl : ∀ y c, (cloFrom X.env.cells scope.names []).lookup y = some c → c ∉ frs X.stack := fun y c e hm => by
      have e1 := clo_cm hcf e
      have e2 : X.fn y = true := by
        rcases cloFrom_mem (PySem.mem_of_lookup e) with z | ⟨z, _⟩
        · cases z
        · exact hown _ z rfl
      have hge := I4.ok.cab y c e2 e1
      rcases List.mem_cons.mp (I4.stkSub c hm) with z | z
      · exact I4.cne y c e1 z
      · obtain ⟨_, o, ho, _⟩ := I4.ok.funs.mem z
        exact absurd (Nat.lt_of_lt_of_le (Heap.lt_size ho) hge) (Nat.lt_irrefl _)
    have lp := lam_b (T := T) (k := k) (fb := fb) I4 (re1.mono l2) (Caps.made I4.ok hfree hfr hjs) P1.1 P1.2.1 hfr' (l2.same _ _ hcH) Sn hcl (hbind _ _ _ _ _) (fun base A outer s H E hc => hb base f c' A outer s H E hc)
    have b := hbd s2 (.ref f :: us) I3.kIn (by rw [List.append_nil, List.length_cons, ← rv.length, rs.length, hn, hps])
    rw [List.append_nil] at b
    refine wpAny_call (codeAny_mono (run _ X.A X.stack s2 H2 f _ O2 S2 us vs ds Q (E σ) ⟨.ref f :: us, []⟩ (reb_base I4) c.room (env0_reb I4) lp b rv hn rs so2 q2) fun r s3 hq => ?_)
    cases r with
    | error e => exact c.pass σ pins H2 s2 e s3 I4 hq
    | ok fl =>
      cases fl with
      | ret u => exact I4.after hq
      | next => exact False.elim hq
      | brk => exact False.elim hq
      | cont => exact False.elim hq
  · rw [if_neg hn] at q2
    exact q2.elim
end
section
variable {X : Cx} {T : Tb} {E : XKs} {k j : Nat}
theorem de_hofC {n : Nat} {G : (List D → M D) → List D → M D} {N ps fr : List Str} {js : List Nat} {x : Str} {params : Arguments} {body : Expr} {scope : Scope} {es : List Expr} {fb : BE} {fs : BA} {cc Pt : Addr} {p lpos pos : Pos} (F : HFn X.prog X.w X.K X.mg X.base T (k + 1) x n ps.length G) (c : Cok X E (k + 2)) (hN : ∀ b ∈ X.fs, b ∈ frs X.stack)
    (TB : TabB X.base X.mg cc Pt) (hcode : X.env.code = .ref cc) (hmT : (Pt, X.env.qual ++ "<lambda>") ∈ T.tabs) (hu : ∀ p ∈ T.tabs, p.1 = Pt → p.2 = X.env.qual ++ "<lambda>") (Sn : NScope N ps fr scope)
    (hfree : ∀ y ∈ scope.names, y.2 = .free → X.env.scope.names.lookup y.1 = some .cell ∨ X.env.scope.names.lookup y.1 = some .free) (hfr : ∀ y ∈ fr, (y, NameKind.free) ∈ scope.names) (hjs : js.map (fun j => X.N[j]?) = fr.map some)
    (hbind : ∀ (q : Str) (cl : List (Str × Addr)) (pm cv ctv : Value) (us : List Value), us.length = ps.length → bindArgs (PySem.W.kla_fn "<lambda>" q params body scope cl pm cv ctv) ⟨us, []⟩ = pure (ps.zip us))
    (hb : ∀ (f c' : Addr) (A : Around) (outer : List Env) (s : Shared) (H : Hp) (E : XK), Cok (ncx (L2N.CX X.prog X.w) X.prog X.w X.K X.mg X.base N ⟨"<lambda>", X.env.qual ++ "<lambda>", params, [], scope, cloFrom X.env.cells scope.names [], c'⟩ f A outer s H E) (fun _ => E) k → DE (ncx (L2N.CX X.prog X.w) X.prog X.w X.K X.mg X.base N ⟨"<lambda>", X.env.qual ++ "<lambda>", params, [], scope, cloFrom X.env.cells scope.names [], c'⟩ f A outer s H E) T (fun _ => E) body fb)
    (ha : DA X T E es fs) (hdef : defaultsOf params X.env = ([], []) := by rfl) (hg : Gl X x := by rfl) (hdb : (x == ("__debug__" : Str)) = false := by decide)
    (h1 : starEach (.Lambda params body scope lpos :: es) X.env = (false, eval (.Lambda params body scope lpos) X.env) :: starEach es X.env := by rfl) (hpl : (backTo pos (starEach es X.env)).any (·.1) = false := by rfl) :
    DE X T E (.Call (.Name x p) (.Lambda params body scope lpos :: es) [] pos) (eHof n N.length js fb G fs) := by
  obtain ⟨fa, fd, psx, hm, hk, hbd, hps, run⟩ := F.ex
  refine ⟨⟨fun pins s σ H Q I h => ?_⟩⟩
  obtain ⟨env, S, O, re, so, q⟩ := h
  refine wpAny_Call_Name_kw (ld_glob I hg hm ?_ hdb)
  refine PySem.W.callWith_K (h₀ := X.base) I.ok.mod.kin hk ?_ h1 hpl
  rw [h1]
  refine Calls.spliced_cons (lam_make2 I TB hcode hmT hu so.tabs hdef (fun y hy e => (hfree y hy e).elim (fun z => I.ok.has _ (.inl z)) fun z => I.ok.has _ (.inr z)) fun f c' pm' ctv H1 s' I1 eN T1 hf hfn hfr' hco => ?_)
  have l1 : Le O H O H1 := Le.ext eN
  have so1 : SOk X.K X.mg T O H1 S := sok_ext so eN T1
  have re1 := re.mono l1
  have hcH := code_hide so1 hco
  have nL : f ≠ X.env.locals := fun z => by
    obtain ⟨m, ⟨ob, es0, ep, ho, hd0, _⟩, _⟩ := I1.loc
    rw [← z, hf] at ho
    cases ho
    cases hd0
  have nS : f ∉ X.fs := fun z => hfr' (hN f z)
  have I2 : Inv X ((f, PySem.W.kla_obj "<lambda>" (X.env.qual ++ "<lambda>") params body scope (cloFrom X.env.cells scope.names []) pm' c' ctv) :: pins) σ H1 s' := I1.pins_of fun p hp => by
    rcases List.mem_cons.mp hp with e | hp
    · subst e
      exact ⟨hf, hfn, nL, nS, fun v z => by cases z⟩
    · exact I1.pin p (List.mem_append_right _ hp)
  refine thn (ha.pa.run pos _ s' σ H1 (fun vs H2 => ∃ ds S2 O2, Le O H1 O2 H2 ∧ Rps X.K X.mg O2.cs (hide O2 H2) vs ds ∧ SOk X.K X.mg T O2 H2 S2 ∧ Po X.K X.mg T (Rp X.K X.mg) ((if ds.length = n then G (fun as => fb (lamEv N.length js env as)) ds else no : M D) S2) O2 H2 Q (E σ)) I2 ⟨env, S, O, re1, so1, Po.bind (Po.le q l1) fun ds S2 O2 H2 xs l2 s2 r2 q2 => ⟨ds, S2, O2, l2, r2, s2, q2⟩⟩) fun us s2 ⟨vs, H2, I3, rv, ds, S2, O2, l2, rs, so2, q2⟩ => ⟨I3.kIn, ?_⟩
  by_cases hn : ds.length = n
  · rw [if_pos hn] at q2
    have P1 := I3.pin (f, _) (List.mem_append_right _ List.mem_cons_self)
    have I4 : Inv X pins σ H2 s2 := I3.pins_of fun p hp => I3.pin p (List.mem_append_right _ (List.mem_cons_of_mem _ hp))
    have lp := lam_p (T := T) (k := k) (fb := fb) I4 (re1.mono l2) (Caps.made I4.ok hfree hfr hjs) P1.1 P1.2.1 hfr' (l2.same _ _ hcH) Sn (hbind _ _ _ _ _) (fun A outer s H E hc => hb f c' A outer s H E hc)
    have b := hbd s2 (.ref f :: us) I3.kIn (by rw [List.append_nil, List.length_cons, ← rv.length, rs.length, hn, hps])
    rw [List.append_nil] at b
    refine wpAny_call (codeAny_mono (run X.A X.stack s2 H2 f _ O2 S2 us vs ds Q (E σ) ⟨.ref f :: us, []⟩ c.room I4.env0 lp b rv hn rs so2 q2) fun r s3 hq => ?_)
    cases r with
    | error e => exact c.pass σ pins H2 s2 e s3 I4 hq
    | ok fl =>
      cases fl with
      | ret u => exact I4.after hq
      | next => exact False.elim hq
      | brk => exact False.elim hq
      | cont => exact False.elim hq
  · rw [if_neg hn] at q2
    exact q2.elim
theorem frs_def (hN : X.stack = X.env :: X.outer) : ∀ b ∈ X.fs, b ∈ frs X.stack := fun b z => by
  rw [hN]
  obtain ⟨e, he, q⟩ := List.mem_filterMap.mp z
  exact List.mem_filterMap.mpr ⟨e, List.mem_cons_of_mem _ he, q⟩
end
theorem tabB_mono {base base' : Heap} {mg : Str → Option Value} {c P : Addr} (h : TabB base mg c P) (k : ∀ b o, base.get? b = some o → base'.get? b = some o) : TabB base' mg c P := ⟨h.code.keeps k, h.bm.keeps k, h.gP⟩
/-- where a def's code object lies -/
def CodeAt (K : PySem.W.Frag) (mg : Str → Option Value) (x : Str) (st : Stmt) (cc : Addr) : Prop := ∀ (f : Addr) (fd : FuncData), mg x = some (.ref f) → L2.Fun K x x st f fd → fd.code = .ref cc
/-- the scope of the comprehension in: return [..] == .. -/
def blkScope (b : List Stmt) (d : Scope) : Scope := match b with
  | [.Return (some (.Compare (.ListComp _ _ sc _) _ _ _)) _] => sc
  | _ => d
/-- what a call refuses: for each value the error's name -/
def refM (Ge : (List D → M D) → List D → M D) (g : List D → M D) (nm : D) : List D → List D → M (List D)
  | [], acc => pure acc
  | d :: ds, acc => fun S => match (Ge (fun _ => g [d]) [] >>= fun r => g2 gNe r nm) S with
    | .ok (.bool true) S' => refM Ge g nm ds (acc ++ [d]) S'
    | .ok (.bool false) S' => refM Ge g nm ds acc S'
    | _ => .no
def G_refused (Ge : (List D → M D) → List D → M D) (g : List D → M D) (ds : List D) : M D := fun S => match ds with
  | [.list xs, nm] => if xs.length ≤ 1000000 then (match (refM Ge g nm xs [] >>= fun r => g2 gEq (.list r) (.list [])) S with
    | .ok d S' => endT S.length d S'
    | .err c S' => .err c S'
    | .no => .no) else .no
  | _ => .no
end Z
end
section
set_option maxHeartbeats 4000000
/-! The end of a law with several defs that make lambdas. -/
namespace Z
open PySem PySem.Spec PyProof.Rows L2
theorem codeAt_of {K : PySem.W.Frag} {mg : Str → Option Value} {x : Str} {st : Stmt} (hm : mg x = some (.ref (He.ga K x))) : CodeAt K mg x st (He.cT K (x, none)).1 := fun f fd e F => by
  rw [hm] at e
  cases e
  obtain ⟨oc, od, kV, doc, pm, an, cdv, ct, osl, rfl, lk, hcd⟩ := F.ex
  obtain ⟨c', rfl⟩ := He.codeIn_ref hcd
  have e : He.codeOf K (x, none) = c' := He.codeOf_eq (p := (x, none)) lk rfl
  show Value.ref c' = .ref (He.codeOf K (x, none))
  rw [e]
/-- L: code object, its table, the lambda's name -/
theorem law_ats {l : PySem.W.OpenLaw} {w : World} {K : PySem.W.Frag} {k : Nat} {x : Str} {st : Stmt} {mg : Str → Option Value} {fa : Addr} {h : Heap} {g : List D → M D} {fd : FuncData} (KX : K.In h) (F : FunD K "law" "law" (defArgs st) (defBody st) (defScope st) [] [] fa fd) (hb : BindEq "law" st [x])
    (L : List (Addr × Addr × Str)) (he : ∀ p ∈ L, h.get? p.2.1 = some { cls := .none, data := .fields #[] }) (ho : ∀ p ∈ L, K.lookup p.2.1 = none) (hh : ∀ p ∈ L, PySem.W.codeHdIn K p.1 p.2.1 = true)
    (law : ∀ base : Heap, K.In base → (∀ p ∈ L, LamX.TabB base mg p.1 p.2.1) → FnOk l.prog w K mg base (L2N.CX l.prog w) k fa fd [x] (spD K mg (tbOf (L.map fun p => p.2)) 1 g))
    (plain : ∀ ns : List Int, ns.length ≤ 63 → ∃ S, g [script ns] [] = .ok (.bool true) S) : LamX.LawAtS l w K (L2N.CX l.prog w) k 63 x mg fa h := by
  refine ⟨fd, L.map (fun p => (p.1, p.2.1)), _, ?_, ?_, ?_, fun s u => ?_, fun H a ns hl _ hH hS => sp_start (ts := L.map fun p => p.2) ?_ hS (plain ns hl), fun base hK _ hT => law base hK fun p hp => hT (p.1, p.2.1) (List.mem_map.mpr ⟨p, hp, rfl⟩)⟩
  · intro p hp
    obtain ⟨q, hq, rfl⟩ := List.mem_map.mp hp
    exact he q hq
  · intro p hp
    obtain ⟨q, hq, rfl⟩ := List.mem_map.mp hp
    exact ho q hq
  · intro p hp
    obtain ⟨q, hq, rfl⟩ := List.mem_map.mp hp
    exact PySem.W.codeHd_of_K KX (hh q hq)
  · exact F.bindsA (ps := [x]) hb s [u] rfl
  · intro p hp
    obtain ⟨q, hq, rfl⟩ := List.mem_map.mp hp
    exact hH (q.1, q.2.1) (List.mem_map.mpr ⟨q, hq, rfl⟩)
end Z
end
section
set_option maxHeartbeats 4000000
/-! Backward steps as instances. -/
namespace Z
open PySem PySem.Spec L2
class WSt (goal : Prop) (next : outParam Prop) : Prop where
  h : next → goal
class GetE (env : Ev) (n : Nat) (d : outParam D) : Prop where
  h : env[n]? = some (some d)
class SetE (env : Ev) (n : Nat) (d : D) (env' : outParam Ev) : Prop where
  h : env.set n (some d) = env'
instance g_z {d : D} {env : Ev} : GetE (some d :: env) 0 d := ⟨rfl⟩
instance g_s {o : Option D} {n : Nat} {d : D} {env : Ev} [h : GetE env n d] : GetE (o :: env) (n + 1) d := ⟨h.h⟩
instance s_z {o : Option D} {d : D} {env : Ev} : SetE (o :: env) 0 d (some d :: env) := ⟨rfl⟩
instance s_s {o : Option D} {n : Nat} {d : D} {env env' : Ev} [h : SetE env n d env'] : SetE (o :: env) (n + 1) d (o :: env') := ⟨by rw [List.set_cons_succ, h.h]⟩
instance s_w {n k : Nat} {a b : D} {env env' env'' : Ev} [h : SetE env n a env'] [h' : SetE env' k b env''] : SetE (env.set n (some a)) k b env'' := ⟨by rw [h.h, h'.h]⟩

class AsgE (t : Tg) (d : D) (env : Ev) (env' : outParam Ev) : Prop where
  h : ∀ S, asg S t d env = some env'
class AsgsE (ts : List Tg) (ds : List D) (env : Ev) (env' : outParam Ev) : Prop where
  h : ∀ S, asgs S ts ds env = some env'
instance a_n {i : Nat} {d : D} {env env' : Ev} [h : SetE env i d env'] : AsgE (.name i) d env env' := ⟨fun S => by rw [asg, h.h]⟩
instance a_t {ts : List Tg} {ds : List D} {env env' : Ev} [h : AsgsE ts ds env env'] : AsgE (.tup ts) (.tuple ds) env env' := ⟨fun S => by rw [asg]; exact h.h S⟩
instance a_l {ts : List Tg} {ds : List D} {env env' : Ev} [h : AsgsE ts ds env env'] : AsgE (.tup ts) (.list ds) env env' := ⟨fun S => by rw [asg]; exact h.h S⟩
instance as_n {env : Ev} : AsgsE [] [] env env := ⟨fun S => rfl⟩
instance as_c {t : Tg} {ts : List Tg} {d : D} {ds : List D} {env env' env'' : Ev} [h : AsgE t d env env'] [k : AsgsE ts ds env' env''] : AsgsE (t :: ts) (d :: ds) env env'' := ⟨fun S => by rw [asgs, h.h S]; exact k.h S⟩
section
variable {α β : Type} {m : M α} {F : α → M β} {S : Store} {P : D → Store → Prop} {PB : Bool → Store → Prop} {PA : List D → Store → Prop} {PO : Option Int → Store → Prop} {PI : Its → Store → Prop} {Q : β → Store → Prop} {R : α → Store → Prop} {E : Str → Store → Prop}
  {env env' : Ev} {f g h : BE} {t u : BT} {fs : BA} {i j : Int} {n k : Nat} {d a b : D} {ds es : List D} {Pn : Ev → Store → Prop} {Pr : D → Store → Prop} {s s' : BS} {e e' e'' : BE} {c : Bool} {x y : Str} {p : Prop}
instance i_var [z : GetE env n d] : WSt (W (eVar n env) S P E) (P d S) := ⟨fun H => w_var z.h H⟩
instance (priority := 2000) i_set [z : SetE env n a env'] : WSt (WS s (env.set n (some a)) S Pn Pr E) (WS s env' S Pn Pr E) := ⟨fun H => by rw [z.h]; exact H⟩
instance i_ao {tg : Tg} [z : AsgE tg d env env'] : WSt (asgO Pn S (asg S tg d env)) (Pn env' S) := ⟨fun H => by rw [z.h]; exact H⟩
instance i_ix0t {xs : List D} : WSt (W (gIx (.tuple (d :: xs)) (.int 0)) S P E) (P d S) := ⟨fun H => w_ixt at_0 H⟩
instance i_ix1t {xs : List D} : WSt (W (gIx (.tuple (a :: d :: xs)) (.int 1)) S P E) (P d S) := ⟨fun H => w_ixt at_1 H⟩
instance i_ix2t {xs : List D} : WSt (W (gIx (.tuple (a :: b :: d :: xs)) (.int 2)) S P E) (P d S) := ⟨fun H => w_ixt at_2 H⟩
instance i_ix0l {xs : List D} : WSt (W (gIx (.list (d :: xs)) (.int 0)) S P E) (P d S) := ⟨fun H => w_ixl at_0 H⟩
instance i_ix1l {xs : List D} : WSt (W (gIx (.list (a :: d :: xs)) (.int 1)) S P E) (P d S) := ⟨fun H => w_ixl at_1 H⟩
instance i_ix2l {xs : List D} : WSt (W (gIx (.list (a :: b :: d :: xs)) (.int 2)) S P E) (P d S) := ⟨fun H => w_ixl at_2 H⟩
class LenE (ds : List D) (n : outParam Nat) : Prop where
  h : ds.length = n
instance l_n : LenE [] 0 := ⟨rfl⟩
instance l_c {x : D} {n : Nat} [h : LenE ds n] : LenE (x :: ds) (n + 1) := ⟨by rw [List.length_cons, h.h]⟩
instance i_leq {A : Prop} [z : LenE ds n] : WSt (ds.length = n ∧ A) A := ⟨fun H => ⟨z.h, H⟩⟩

instance i_w_bind : WSt (W (m >>= F) S Q E) (W m S (fun a S' => W (F a) S' Q E) E) := ⟨fun H => w_bind H⟩
instance i_w_pure {a : α} : WSt (W (pure a) S R E) (R a S) := ⟨fun H => w_pure H⟩
instance i_w_c : WSt (W (eC d env) S P E) (P d S) := ⟨fun H => w_c H⟩
instance i_w_e2 {o : D → D → M D} : WSt (W (e2 o f g env) S P E) (W (f env) S (fun a S1 => W (g env) S1 (fun b S2 => W (o a b) S2 P E) E) E) := ⟨fun H => w_e2 H⟩
instance i_w_e1 {o : D → M D} : WSt (W (e1 o f env) S P E) (W (f env) S (fun a S1 => W (o a) S1 P E) E) := ⟨fun H => w_e1 H⟩
instance i_w_g2 {o : D → D → M D} : WSt (W (g2 o a b) S P E) (W (rd a) S (fun a S1 => W (rd b) S1 (fun b S2 => W (o a b) S2 P E) E) E) := ⟨fun H => w_g2 H⟩
instance i_w_g1 {o : D → M D} : WSt (W (g1 o a) S P E) (W (rd a) S (fun a S1 => W (o a) S1 P E) E) := ⟨fun H => w_g1 H⟩
instance i_w_rd_i : WSt (W (rd (.int i)) S P E) (P (.int i) S) := ⟨fun H => w_rd_i H⟩
instance i_w_rd_b : WSt (W (rd (.bool c)) S P E) (P (.bool c) S) := ⟨fun H => w_rd_b H⟩
instance i_w_rd_s : WSt (W (rd (.str x)) S P E) (P (.str x) S) := ⟨fun H => w_rd_s H⟩
instance i_w_rd_n : WSt (W (rd (.none)) S P E) (P (.none) S) := ⟨fun H => w_rd_n H⟩
instance i_w_rd_t : WSt (W (rd (.tuple ds)) S P E) (P (.tuple ds) S) := ⟨fun H => w_rd_t H⟩
instance i_w_rd_l : WSt (W (rd (.list ds)) S P E) (P (.list ds) S) := ⟨fun H => w_rd_l H⟩
instance i_w_rd_f : WSt (W (rd (.frz ds)) S P E) (P (.frz ds) S) := ⟨fun H => w_rd_f H⟩
instance i_w_rd_fn : WSt (W (rd (.fn x)) S P E) (P (.fn x) S) := ⟨fun H => w_rd_fn H⟩
instance i_w_aNil : WSt (W (aNil env) S PA E) (PA [] S) := ⟨fun H => w_aNil H⟩
instance i_w_aCons : WSt (W (aCons f fs env) S PA E) (W (f env) S (fun a S1 => W (fs env) S1 (fun as S2 => PA (a :: as) S2) E) E) := ⟨fun H => w_aCons H⟩
instance i_w_eTup : WSt (W (eTup fs env) S P E) (W (fs env) S (fun as S1 => as.length ≤ 1000000 ∧ P (.tuple as) S1) E) := ⟨fun H => w_eTup H⟩
instance i_w_eLst : WSt (W (eLst fs env) S P E) (W (fs env) S (fun as S1 => as.length ≤ 1000000 ∧ P (.list as) S1) E) := ⟨fun H => w_eLst H⟩
instance i_w_eCel : WSt (W (eCel fs env) S P E) (W (fs env) S (fun as S1 => as.length ≤ 1000000 ∧ W (newCell as) S1 P E) E) := ⟨fun H => w_eCel H⟩
instance i_w_eCall {r : List D → M D} : WSt (W (eCall n r fs env) S P E) (W (fs env) S (fun as S1 => as.length = n ∧ W (r as) S1 P E) E) := ⟨fun H => w_eCall H⟩
instance i_w_eCB {r : List D → M D} : WSt (W (eCB r fs env) S P E) (W (fs env) S (fun as S1 => W (r as) S1 P E) E) := ⟨fun H => w_eCB H⟩
instance i_w_c1 {o : D → M D} : WSt (W (c1 o [a]) S P E) (W (rd a) S (fun a S1 => W (o a) S1 P E) E) := ⟨fun H => w_c1 H⟩
instance i_w_c2 {o : D → D → M D} : WSt (W (c2 o [a, b]) S P E) (W (rd a) S (fun a S1 => W (rd b) S1 (fun b S2 => W (o a b) S2 P E) E) E) := ⟨fun H => w_c2 H⟩
instance i_w_eAnd : WSt (W (eAnd f g env) S P E) (W (f env) S (fun a S1 => W (toBool a) S1 (fun b S2 => if b = true then W (g env) S2 P E else P (.bool false) S2) E) E) := ⟨fun H => w_eAnd H⟩
instance i_w_eOr : WSt (W (eOr f g env) S P E) (W (f env) S (fun a S1 => W (toBool a) S1 (fun b S2 => if b = true then P (.bool true) S2 else W (g env) S2 P E) E) E) := ⟨fun H => w_eOr H⟩
instance i_w_eNot : WSt (W (eNot f env) S P E) (W (f env) S (fun a S1 => W (toBool a) S1 (fun b S2 => P (.bool (!b)) S2) E) E) := ⟨fun H => w_eNot H⟩
instance i_w_toBool : WSt (W (toBool (.bool c)) S PB E) (PB c S) := ⟨fun H => w_toBool H⟩
instance i_w_eIf : WSt (W (eIf t f g env) S P E) (W (t env) S (fun b S1 => if b = true then W (f env) S1 P E else W (g env) S1 P E) E) := ⟨fun H => w_eIf H⟩
instance i_w_bTru : WSt (W (bTru f env) S PB E) (W (f env) S (fun a S1 => W (tru a) S1 PB E) E) := ⟨fun H => w_bTru H⟩
instance i_w_tru_b : WSt (W (tru (.bool c)) S PB E) (PB c S) := ⟨fun H => w_tru_b H⟩
instance i_w_tru_n : WSt (W (tru .none) S PB E) (PB false S) := ⟨fun H => w_tru_n H⟩
instance i_w_tru_i : WSt (W (tru (.int i)) S PB E) (PB (i != 0) S) := ⟨fun H => w_tru_i H⟩
instance i_w_tru_t : WSt (W (tru (.tuple ds)) S PB E) (PB (!ds.isEmpty) S) := ⟨fun H => w_tru_t H⟩
instance i_w_tru_l : WSt (W (tru (.list ds)) S PB E) (PB (!ds.isEmpty) S) := ⟨fun H => w_tru_l H⟩
instance i_w_tB1 : WSt (W (tB1 f env) S PB E) (W (f env) S (fun a S1 => W (oB a) S1 PB E) E) := ⟨fun H => w_tB1 H⟩
instance i_w_oB : WSt (W (oB (.bool c)) S PB E) (PB c S) := ⟨fun H => w_oB H⟩
instance i_w_bNot : WSt (W (bNot t env) S PB E) (W (t env) S (fun b S1 => PB (!b) S1) E) := ⟨fun H => w_bNot H⟩
instance i_w_bAnd : WSt (W (bAnd t u env) S PB E) (W (t env) S (fun b S1 => if b = true then W (u env) S1 PB E else PB false S1) E) := ⟨fun H => w_bAnd H⟩
instance i_w_bOr : WSt (W (bOr t u env) S PB E) (W (t env) S (fun b S1 => if b = true then PB true S1 else W (u env) S1 PB E) E) := ⟨fun H => w_bOr H⟩
instance i_w_bYes : WSt (W (bYes env) S PB E) (PB true S) := ⟨fun H => w_bYes H⟩
instance i_w_eChain {o o' : D → D → M D} : WSt (W (eChain o o' f g h env) S P E) (W (f env) S (fun a S1 => W (g env) S1 (fun b S2 => W (o a b) S2 (fun z S3 => W (toBool z) S3 (fun c S4 => if c = true then W (h env) S4 (fun c S5 => W (o' b c) S5 P E) E else P (.bool false) S4) E) E) E) E) := ⟨fun H => w_eChain H⟩
instance i_w_eIsi {ty : String} : WSt (W (eIsi ty f env) S P E) (W (f env) S (fun a S1 => W (rd a) S1 (fun a S2 => W (gIsi ty a) S2 P E) E) E) := ⟨fun H => w_eIsi H⟩
instance i_w_is_int_i : WSt (W (gIsi "int" (.int i)) S P E) (P (.bool true) S) := ⟨fun H => w_is_int_i H⟩
instance i_w_is_int_b : WSt (W (gIsi "int" (.bool c)) S P E) (P (.bool true) S) := ⟨fun H => w_is_int_b H⟩
instance i_w_is_int_s : WSt (W (gIsi "int" (.str x)) S P E) (P (.bool false) S) := ⟨fun H => w_is_int_s H⟩
instance i_w_is_int_n : WSt (W (gIsi "int" (.none)) S P E) (P (.bool false) S) := ⟨fun H => w_is_int_n H⟩
instance i_w_is_int_t : WSt (W (gIsi "int" (.tuple ds)) S P E) (P (.bool false) S) := ⟨fun H => w_is_int_t H⟩
instance i_w_is_int_l : WSt (W (gIsi "int" (.list ds)) S P E) (P (.bool false) S) := ⟨fun H => w_is_int_l H⟩
instance i_w_is_bool_i : WSt (W (gIsi "bool" (.int i)) S P E) (P (.bool false) S) := ⟨fun H => w_is_bool_i H⟩
instance i_w_is_bool_b : WSt (W (gIsi "bool" (.bool c)) S P E) (P (.bool true) S) := ⟨fun H => w_is_bool_b H⟩
instance i_w_is_bool_s : WSt (W (gIsi "bool" (.str x)) S P E) (P (.bool false) S) := ⟨fun H => w_is_bool_s H⟩
instance i_w_is_bool_n : WSt (W (gIsi "bool" (.none)) S P E) (P (.bool false) S) := ⟨fun H => w_is_bool_n H⟩
instance i_w_is_bool_t : WSt (W (gIsi "bool" (.tuple ds)) S P E) (P (.bool false) S) := ⟨fun H => w_is_bool_t H⟩
instance i_w_is_bool_l : WSt (W (gIsi "bool" (.list ds)) S P E) (P (.bool false) S) := ⟨fun H => w_is_bool_l H⟩
instance i_w_is_str_i : WSt (W (gIsi "str" (.int i)) S P E) (P (.bool false) S) := ⟨fun H => w_is_str_i H⟩
instance i_w_is_str_b : WSt (W (gIsi "str" (.bool c)) S P E) (P (.bool false) S) := ⟨fun H => w_is_str_b H⟩
instance i_w_is_str_s : WSt (W (gIsi "str" (.str x)) S P E) (P (.bool true) S) := ⟨fun H => w_is_str_s H⟩
instance i_w_is_str_n : WSt (W (gIsi "str" (.none)) S P E) (P (.bool false) S) := ⟨fun H => w_is_str_n H⟩
instance i_w_is_str_t : WSt (W (gIsi "str" (.tuple ds)) S P E) (P (.bool false) S) := ⟨fun H => w_is_str_t H⟩
instance i_w_is_str_l : WSt (W (gIsi "str" (.list ds)) S P E) (P (.bool false) S) := ⟨fun H => w_is_str_l H⟩
instance i_w_is_list_i : WSt (W (gIsi "list" (.int i)) S P E) (P (.bool false) S) := ⟨fun H => w_is_list_i H⟩
instance i_w_is_list_b : WSt (W (gIsi "list" (.bool c)) S P E) (P (.bool false) S) := ⟨fun H => w_is_list_b H⟩
instance i_w_is_list_s : WSt (W (gIsi "list" (.str x)) S P E) (P (.bool false) S) := ⟨fun H => w_is_list_s H⟩
instance i_w_is_list_n : WSt (W (gIsi "list" (.none)) S P E) (P (.bool false) S) := ⟨fun H => w_is_list_n H⟩
instance i_w_is_list_t : WSt (W (gIsi "list" (.tuple ds)) S P E) (P (.bool false) S) := ⟨fun H => w_is_list_t H⟩
instance i_w_is_list_l : WSt (W (gIsi "list" (.list ds)) S P E) (P (.bool true) S) := ⟨fun H => w_is_list_l H⟩
instance i_w_is_tuple_i : WSt (W (gIsi "tuple" (.int i)) S P E) (P (.bool false) S) := ⟨fun H => w_is_tuple_i H⟩
instance i_w_is_tuple_b : WSt (W (gIsi "tuple" (.bool c)) S P E) (P (.bool false) S) := ⟨fun H => w_is_tuple_b H⟩
instance i_w_is_tuple_s : WSt (W (gIsi "tuple" (.str x)) S P E) (P (.bool false) S) := ⟨fun H => w_is_tuple_s H⟩
instance i_w_is_tuple_n : WSt (W (gIsi "tuple" (.none)) S P E) (P (.bool false) S) := ⟨fun H => w_is_tuple_n H⟩
instance i_w_is_tuple_t : WSt (W (gIsi "tuple" (.tuple ds)) S P E) (P (.bool true) S) := ⟨fun H => w_is_tuple_t H⟩
instance i_w_is_tuple_l : WSt (W (gIsi "tuple" (.list ds)) S P E) (P (.bool false) S) := ⟨fun H => w_is_tuple_l H⟩
instance i_w_add : WSt (W (gAdd (.int i) (.int j)) S P E) (P (.int (i + j)) S) := ⟨fun H => w_add H⟩
instance i_w_sub : WSt (W (gSub (.int i) (.int j)) S P E) (P (.int (i - j)) S) := ⟨fun H => w_sub H⟩
instance i_w_addB : WSt (W (gAdd (.bool c) (.int j)) S P E) (P (.int (b2n c + j)) S) := ⟨fun H => w_addB H⟩
instance i_w_subB : WSt (W (gSub (.bool c) (.int j)) S P E) (P (.int (b2n c - j)) S) := ⟨fun H => w_subB H⟩
instance i_w_cmp {q : Int → Int → Bool} : WSt (W (gCmp q (.int i) (.int j)) S P E) (P (.bool (q i j)) S) := ⟨fun H => w_cmp H⟩
instance i_w_neg : WSt (W (gNeg (.int i)) S P E) (P (.int (-i)) S) := ⟨fun H => w_neg H⟩
instance i_w_abs : WSt (W (gAbs (.int i)) S P E) (P (.int (if i < 0 then -i else i)) S) := ⟨fun H => w_abs H⟩
instance i_w_int : WSt (W (gInt (.int i)) S P E) (P (.int i) S) := ⟨fun H => w_int H⟩
instance i_w_max : WSt (W (gMax2 (.int i) (.int j)) S P E) (P (.int (if j > i then j else i)) S) := ⟨fun H => w_max H⟩
instance i_w_min : WSt (W (gMin2 (.int i) (.int j)) S P E) (P (.int (if j < i then j else i)) S) := ⟨fun H => w_min H⟩
instance i_w_eqi : WSt (W (gEq (.int i) (.int j)) S P E) (P (.bool (decide (i = j))) S) := ⟨fun H => w_eqi H⟩
instance i_w_nei : WSt (W (gNe (.int i) (.int j)) S P E) (P (.bool (!decide (i = j))) S) := ⟨fun H => w_nei H⟩
instance i_w_isB_ttt : WSt (W (gIs true (.bool true) (.bool true)) S P E) (P (.bool false) S) := ⟨fun H => w_isB_ttt H⟩
instance i_w_isB_ttf : WSt (W (gIs true (.bool true) (.bool false)) S P E) (P (.bool true) S) := ⟨fun H => w_isB_ttf H⟩
instance i_w_isB_tft : WSt (W (gIs true (.bool false) (.bool true)) S P E) (P (.bool true) S) := ⟨fun H => w_isB_tft H⟩
instance i_w_isB_tff : WSt (W (gIs true (.bool false) (.bool false)) S P E) (P (.bool false) S) := ⟨fun H => w_isB_tff H⟩
instance i_w_isN_tn : WSt (W (gIs true (.none) .none) S P E) (P (.bool false) S) := ⟨fun H => w_isN_tn H⟩
instance i_w_isN_tt : WSt (W (gIs true (.tuple ds) .none) S P E) (P (.bool true) S) := ⟨fun H => w_isN_tt H⟩
instance i_w_isN_tl : WSt (W (gIs true (.list ds) .none) S P E) (P (.bool true) S) := ⟨fun H => w_isN_tl H⟩
instance i_w_isN_ti : WSt (W (gIs true (.int i) .none) S P E) (P (.bool true) S) := ⟨fun H => w_isN_ti H⟩
instance i_w_isN_ts : WSt (W (gIs true (.str x) .none) S P E) (P (.bool true) S) := ⟨fun H => w_isN_ts H⟩
instance i_w_isN_tb : WSt (W (gIs true (.bool c) .none) S P E) (P (.bool true) S) := ⟨fun H => w_isN_tb H⟩
instance i_w_isB_ftt : WSt (W (gIs false (.bool true) (.bool true)) S P E) (P (.bool true) S) := ⟨fun H => w_isB_ftt H⟩
instance i_w_isB_ftf : WSt (W (gIs false (.bool true) (.bool false)) S P E) (P (.bool false) S) := ⟨fun H => w_isB_ftf H⟩
instance i_w_isB_fft : WSt (W (gIs false (.bool false) (.bool true)) S P E) (P (.bool false) S) := ⟨fun H => w_isB_fft H⟩
instance i_w_isB_fff : WSt (W (gIs false (.bool false) (.bool false)) S P E) (P (.bool true) S) := ⟨fun H => w_isB_fff H⟩
instance i_w_isN_fn : WSt (W (gIs false (.none) .none) S P E) (P (.bool true) S) := ⟨fun H => w_isN_fn H⟩
instance i_w_isN_ft : WSt (W (gIs false (.tuple ds) .none) S P E) (P (.bool false) S) := ⟨fun H => w_isN_ft H⟩
instance i_w_isN_fl : WSt (W (gIs false (.list ds) .none) S P E) (P (.bool false) S) := ⟨fun H => w_isN_fl H⟩
instance i_w_isN_fi : WSt (W (gIs false (.int i) .none) S P E) (P (.bool false) S) := ⟨fun H => w_isN_fi H⟩
instance i_w_isN_fs : WSt (W (gIs false (.str x) .none) S P E) (P (.bool false) S) := ⟨fun H => w_isN_fs H⟩
instance i_w_isN_fb : WSt (W (gIs false (.bool c) .none) S P E) (P (.bool false) S) := ⟨fun H => w_isN_fb H⟩
instance (priority := low) i_w_isN {ng : Bool} : WSt (W (gIs ng a .none) S P E) (P (.bool (ng ^^ isNone a)) S) := ⟨fun H => w_isN H⟩
instance (priority := low) i_w_isB {ng q : Bool} : WSt (W (gIs ng (.bool c) (.bool q)) S P E) (P (.bool (ng ^^ decide (c = q))) S) := ⟨fun H => w_isB H⟩
instance i_w_len_t : WSt (W (gLen (.tuple ds)) S P E) (P (.int ds.length) S) := ⟨fun H => w_len_t H⟩
instance i_w_len_l : WSt (W (gLen (.list ds)) S P E) (P (.int ds.length) S) := ⟨fun H => w_len_l H⟩
instance i_w_len_f : WSt (W (gLen (.frz ds)) S P E) (P (.int ds.length) S) := ⟨fun H => w_len_f H⟩
instance i_w_tup_t : WSt (W (gTuple (.tuple ds)) S P E) (P (.tuple ds) S) := ⟨fun H => w_tup_t H⟩
instance i_w_tup_l : WSt (W (gTuple (.list ds)) S P E) (P (.tuple ds) S) := ⟨fun H => w_tup_l H⟩
instance i_w_lis_t : WSt (W (gList (.tuple ds)) S P E) (P (.list ds) S) := ⟨fun H => w_lis_t H⟩
instance i_w_lis_l : WSt (W (gList (.list ds)) S P E) (P (.list ds) S) := ⟨fun H => w_lis_l H⟩
instance i_w_rev : WSt (W (gRevT (.tuple ds)) S P E) (P (.tuple ds.reverse) S) := ⟨fun H => w_rev H⟩
instance i_w_eSl {lo hi : BO} : WSt (W (eSl f lo hi env) S P E) (W (f env) S (fun a S1 => W (lo env) S1 (fun l S2 => W (hi env) S2 (fun r S3 => W (rd a) S3 (fun a S4 => W (gSl a l r) S4 P E) E) E) E) E) := ⟨fun H => w_eSl H⟩
instance i_w_oNone : WSt (W (oNone env) S PO E) (PO none S) := ⟨fun H => w_oNone H⟩
instance i_w_oSome : WSt (W (oSome f env) S PO E) (W (f env) S (fun a S1 => W (toInt a) S1 PO E) E) := ⟨fun H => w_oSome H⟩
instance i_w_toInt : WSt (W (toInt (.int i)) S PO E) (PO (some i) S) := ⟨fun H => w_toInt H⟩
instance i_w_sl_t {lo hi : Option Int} : WSt (W (gSl (.tuple ds) lo hi) S P E) (P (.tuple (cutD ds lo hi)) S) := ⟨fun H => w_sl_t H⟩
instance i_w_sl_l {lo hi : Option Int} : WSt (W (gSl (.list ds) lo hi) S P E) (P (.list (cutD ds lo hi)) S) := ⟨fun H => w_sl_l H⟩
instance i_w_eApp : WSt (W (eApp f g env) S P E) (W (f env) S (fun a S1 => W (isCell a) S1 (fun _ S2 => W (g env) S2 (fun y S3 => W (push a y) S3 P E) E) E) E) := ⟨fun H => w_eApp H⟩
instance i_w_ePop : WSt (W (ePop f g env) S P E) (W (f env) S (fun a S1 => W (isCell a) S1 (fun _ S2 => W (g env) S2 (fun y S3 => W (popAt a y) S3 P E) E) E) E) := ⟨fun H => w_ePop H⟩
instance i_w_isCell {PU : Unit → Store → Prop} : WSt (W (isCell (.cell n)) S PU E) (PU () S) := ⟨fun H => w_isCell H⟩
instance i_w_eLc {vs : List Nat} {it : BI} {tg : Tg} {tt : BT} : WSt (W (eLc vs it tg tt f env) S P E) (W (it env) S (fun p S1 => W (runLc tg tt f (wipeE env vs) p) S1 (fun ds S2 => P (.list ds) S2) E) E) := ⟨fun H => w_eLc H⟩
instance i_w_iSeq : WSt (W (iSeq f env) S PI E) (W (f env) S (fun a S1 => W (toIts a) S1 PI E) E) := ⟨fun H => w_iSeq H⟩
instance i_w_its_t : WSt (W (toIts (.tuple ds)) S PI E) (PI ⟨ds, fun _ => true⟩ S) := ⟨fun H => w_its_t H⟩
instance i_w_its_l : WSt (W (toIts (.list ds)) S PI E) (PI ⟨ds, fun _ => true⟩ S) := ⟨fun H => w_its_l H⟩
instance i_w_iZp : WSt (W (iZp f g env) S PI E) (W (f env) S (fun a S1 => W (g env) S1 (fun b S2 => W (toZip a b) S2 PI E) E) E) := ⟨fun H => w_iZp H⟩
instance i_w_zip_tt : WSt (W (toZip (.tuple ds) (.tuple es)) S PI E) (PI ⟨pairDs ds es, fun _ => true && true⟩ S) := ⟨fun H => w_zip_tt H⟩
instance i_w_zip_ll : WSt (W (toZip (.list ds) (.list es)) S PI E) (PI ⟨pairDs ds es, fun _ => true && true⟩ S) := ⟨fun H => w_zip_ll H⟩
instance i_w_iRg : WSt (W (iRg f env) S PI E) (W (f env) S (fun a S1 => W (toRng a) S1 PI E) E) := ⟨fun H => w_iRg H⟩
instance i_w_endB : WSt (W (endT n (.bool c)) S P E) (P (.bool c) (S.take n)) := ⟨fun H => w_endB H⟩
instance i_w_endI : WSt (W (endT n (.int i)) S P E) (P (.int i) (S.take n)) := ⟨fun H => w_endI H⟩
instance i_w_endN : WSt (W (endT n .none) S P E) (P .none (S.take n)) := ⟨fun H => w_endN H⟩
instance i_ws_nil : WSt (WS sNil env S Pn Pr E) (Pn env S) := ⟨fun H => ws_nil H⟩
instance i_ws_seq : WSt (WS (sSeq s s') env S Pn Pr E) (WS s env S (fun v S1 => WS s' v S1 Pn Pr E) Pr E) := ⟨fun H => ws_seq H⟩
instance i_ws_set : WSt (WS (sSet n e) env S Pn Pr E) (W (e env) S (fun a S1 => Pn (env.set n (some a)) S1) E) := ⟨fun H => ws_set H⟩
instance i_ws_expr : WSt (WS (sExpr e) env S Pn Pr E) (W (e env) S (fun _ S1 => Pn env S1) E) := ⟨fun H => ws_expr H⟩
instance i_ws_ret : WSt (WS (sRet e) env S Pn Pr E) (W (e env) S Pr E) := ⟨fun H => ws_ret H⟩
instance i_ws_retN : WSt (WS sRetN env S Pn Pr E) (Pr .none S) := ⟨fun H => ws_retN H⟩
instance i_ws_raise : WSt (WS (sRaise x) env S Pn Pr E) (E x S) := ⟨fun H => ws_raise H⟩
instance i_ws_if : WSt (WS (sIf t s s') env S Pn Pr E) (W (t env) S (fun b S1 => if b = true then WS s env S1 Pn Pr E else WS s' env S1 Pn Pr E) E) := ⟨fun H => ws_if H⟩
instance i_ws_par : WSt (WS (sPar n k e e') env S Pn Pr E) (W (e env) S (fun a S1 => W (e' env) S1 (fun b S2 => Pn ((env.set n (some a)).set k (some b)) S2) E) E) := ⟨fun H => ws_par H⟩
instance i_ws_par3 {l : Nat} : WSt (WS (sPar3 n k l e e' e'') env S Pn Pr E) (W (e env) S (fun a S1 => W (e' env) S1 (fun b S2 => W (e'' env) S2 (fun c S3 => Pn (((env.set n (some a)).set k (some b)).set l (some c)) S3) E) E) E) := ⟨fun H => ws_par3 H⟩
instance i_ws_asg {tg : Tg} : WSt (WS (sAsg tg e) env S Pn Pr E) (W (e env) S (fun a S1 => asgO Pn S1 (asg S1 tg a env)) E) := ⟨fun H => ws_asg H⟩
instance i_ws_for {it : BI} {tg : Tg} : WSt (WS (sFor it tg s) env S Pn Pr E) (W (it env) S (fun p S1 => WS (forM p.gd tg s p.ds) env S1 Pn Pr E) E) := ⟨fun H => ws_for H⟩
instance i_if_tt {A B : Prop} : WSt (if true = true then A else B) (A) := ⟨fun H => if_tt H⟩
instance i_if_ff {A B : Prop} : WSt (if false = true then A else B) (B) := ⟨fun H => if_ff H⟩
instance i_if_ntt {A B : Prop} : WSt (if (!true) = true then A else B) (B) := ⟨fun H => if_ntt H⟩
instance i_if_nff {A B : Prop} : WSt (if (!false) = true then A else B) (A) := ⟨fun H => if_nff H⟩
end
end Z
end
section
set_option maxHeartbeats 4000000
/-! sum, min, max of lists of ints; sorted lists of data; constants that are tuples. -/
namespace Z
open PySem PySem.Spec PyProof.Rows L2
section
variable {X : Cx} {T : Tb} {E : XKs}
def gSum (a : D) : M D := match a with
  | .list ds => ofO ((intsD ds).map fun ns => .int ns.sum)
  | _ => no
theorem d_sum : CallD X T (rSum X.K) (c1 gSum) := cd1 fun O H S x a Q E so sa q => by
  unfold gSum at q
  split at q
  · obtain ⟨d, h, q1⟩ := po_ofO q
    obtain ⟨ns, hb, rfl⟩ := Option.map_eq_some_iff.mp h
    obtain ⟨p, vs, rfl, h1, t⟩ := sa.list
    have e := intsD_rp t hb
    subst e
    exact ⟨_, _, rfl, .inl (.inl h1), q1 O H _ Le.refl so (.int _)⟩
  · exact q.elim
def minL : List Int → Option Int
  | [] => none
  | n :: ns => some (ns.foldl min n)
def maxL : List Int → Option Int
  | [] => none
  | n :: ns => some (ns.foldl max n)
theorem foldl_min (ns : List Int) : ∀ n : Int, (ns.foldl min n ≤ n ∧ ∀ y ∈ ns, ns.foldl min n ≤ y) ∧ (ns.foldl min n = n ∨ ns.foldl min n ∈ ns) := by
  induction ns with
  | nil => intro n; simp
  | cons m ns ih =>
    intro n
    obtain ⟨⟨h1, h2⟩, h3⟩ := ih (min n m)
    rw [List.foldl_cons]
    refine ⟨⟨by omega, fun y hy => ?_⟩, ?_⟩
    · rcases List.mem_cons.mp hy with e | e
      · omega
      · exact h2 y e
    · rcases h3 with e | e
      · by_cases h : n ≤ m
        · left; omega
        · right
          have : ns.foldl min (min n m) = m := by omega
          rw [this]; simp
      · right; simp [e]
theorem foldl_max (ns : List Int) : ∀ n : Int, (n ≤ ns.foldl max n ∧ ∀ y ∈ ns, y ≤ ns.foldl max n) ∧ (ns.foldl max n = n ∨ ns.foldl max n ∈ ns) := by
  induction ns with
  | nil => intro n; simp
  | cons m ns ih =>
    intro n
    obtain ⟨⟨h1, h2⟩, h3⟩ := ih (max n m)
    rw [List.foldl_cons]
    refine ⟨⟨by omega, fun y hy => ?_⟩, ?_⟩
    · rcases List.mem_cons.mp hy with e | e
      · omega
      · exact h2 y e
    · rcases h3 with e | e
      · by_cases h : m ≤ n
        · left; omega
        · right
          have : ns.foldl max (max n m) = m := by omega
          rw [this]; simp
      · right; simp [e]
theorem minL_is {ns : List Int} {m r : Int} (e : minL ns = some r) (h : m ∈ ns) (hm : ∀ y ∈ ns, m ≤ y) : r = m := by
  cases ns with
  | nil => simp at h
  | cons n ns =>
    simp only [minL, Option.some.injEq] at e
    subst e
    obtain ⟨⟨h1, h2⟩, h3⟩ := foldl_min ns n
    have a1 : m ≤ ns.foldl min n := by
      rcases h3 with e | e
      · rw [e]; exact hm n (by simp)
      · exact hm _ (by simp [e])
    have a2 : ns.foldl min n ≤ m := by
      rcases List.mem_cons.mp h with e | e
      · rw [e]; exact h1
      · exact h2 m e
    omega
theorem maxL_is {ns : List Int} {m r : Int} (e : maxL ns = some r) (h : m ∈ ns) (hm : ∀ y ∈ ns, y ≤ m) : r = m := by
  cases ns with
  | nil => simp at h
  | cons n ns =>
    simp only [maxL, Option.some.injEq] at e
    subst e
    obtain ⟨⟨h1, h2⟩, h3⟩ := foldl_max ns n
    have a1 : ns.foldl max n ≤ m := by
      rcases h3 with e | e
      · rw [e]; exact hm n (by simp)
      · exact hm _ (by simp [e])
    have a2 : m ≤ ns.foldl max n := by
      rcases List.mem_cons.mp h with e | e
      · rw [e]; exact h1
      · exact h2 m e
    omega
def gMinL (a : D) : M D := match a with
  | .list ds => ofO ((intsD ds).bind fun ns => (minL ns).map .int)
  | _ => no
def gMaxL (a : D) : M D := match a with
  | .list ds => ofO ((intsD ds).bind fun ns => (maxL ns).map .int)
  | _ => no
theorem d_minL : CallD X T (rMin X.K) (c1 gMinL) := cd1 fun O H S x a Q E so sa q => by
  unfold gMinL at q
  split at q
  · obtain ⟨d, h, q1⟩ := po_ofO q
    obtain ⟨ns, hb, h2⟩ := Option.bind_eq_some_iff.mp h
    obtain ⟨r, hr, rfl⟩ := Option.map_eq_some_iff.mp h2
    obtain ⟨p, vs, rfl, h1, t⟩ := sa.list
    have e := intsD_rp t hb
    subst e
    refine ⟨_, _, rfl, .inl (.inl h1), by cases ns with | nil => simp [minL] at hr | cons => simp, fun m hm hle => ?_⟩
    rw [← minL_is hr hm hle]
    exact q1 O H _ Le.refl so (.int _)
  · exact q.elim
theorem d_maxL : CallD X T (rMax X.K) (c1 gMaxL) := cd1 fun O H S x a Q E so sa q => by
  unfold gMaxL at q
  split at q
  · obtain ⟨d, h, q1⟩ := po_ofO q
    obtain ⟨ns, hb, h2⟩ := Option.bind_eq_some_iff.mp h
    obtain ⟨r, hr, rfl⟩ := Option.map_eq_some_iff.mp h2
    obtain ⟨p, vs, rfl, h1, t⟩ := sa.list
    have e := intsD_rp t hb
    subst e
    refine ⟨_, _, rfl, .inl (.inl h1), by cases ns with | nil => simp [maxL] at hr | cons => simp, fun m hm hle => ?_⟩
    rw [← maxL_is hr hm hle]
    exact q1 O H _ Le.refl so (.int _)
  · exact q.elim
/-! ### sorted lists of data -/
def okSort (ds : List D) : Bool := okDs 64 ds && (pys ds).all (fun d => (pys ds).all fun d' => PySem.W.alike d d') &&
  (ds.all (fun d => match d with | .tuple (_ :: _) => true | _ => false) || ds.all (fun d => match d with | .none => false | .tuple _ => false | _ => true))
def leD (a b : D) : Bool := PySem.W.dataLe false py a b
def sortD (ds : List D) : List D := ds.mergeSort leD
def gSortD (a : D) : M D := match a with
  | .list ds => if okSort ds = true then pure (.list (sortD ds)) else no
  | _ => no
theorem pys_map : ∀ ds : List D, pys ds = ds.map py
  | [] => rfl
  | d :: ds => by rw [pys, pys_map ds]; rfl
/-- what the rule asks: a list of data -/
def rSortD (K : PySem.W.Frag) (mg : Str → Option Value) : List V → Hp → VK → Prop := fun vs H Q => ∃ (a : Addr) (xs : List V) (ds : List D) (Ob : List Addr) (G : Hp), vs = [V.ref a] ∧ SqL K H a xs ∧ (∀ b o, G b = some o → H b = some o) ∧ Rps K mg Ob G xs ds ∧ okSort ds = true ∧
  ∀ ys l, Rps K mg Ob G ys (sortD ds) → H l = none → Q (.ref l) (upd H l (.lst ys))
def RV (K : PySem.W.Frag) (mg : Str → Option Value) (Ob : List Addr) (G : Hp) (u : Value) (d : D) : Prop := ∃ x, RelV x u ∧ Rp K mg Ob G x d
theorem each_of {K : PySem.W.Frag} {mg : Str → Option Value} {Ob : List Addr} {G : Hp} : ∀ {ds : List D} {xs : List V} {us : List Value}, Vals xs us → Rps K mg Ob G xs ds → PySem.W.EachIs (RV K mg Ob G) us ds
  | _, _, _, .nil, .nil => .nil
  | _, _, _, .cons r rr, .cons q qq => .cons ⟨_, r, q⟩ (each_of rr qq)
theorem of_each {K : PySem.W.Frag} {mg : Str → Option Value} {Ob : List Addr} {G : Hp} : ∀ {ds : List D} {us : List Value}, PySem.W.EachIs (RV K mg Ob G) us ds → ∃ xs, Vals xs us ∧ Rps K mg Ob G xs ds
  | _, _, .nil => ⟨[], .nil, .nil⟩
  | _, _, .cons ⟨x, r, q⟩ t => by
    obtain ⟨xs, h1, h2⟩ := of_each t
    exact ⟨x :: xs, .cons r h1, .cons q h2⟩
theorem cr_sortedDt (hu : X.A.units + 70 < cLine) : CallR X (.builtin "sorted") (rSortD X.K X.mg) := by
  intro pins s σ H vs us Q I r h
  obtain ⟨a, xs, ds, Ob, G, rfl, hs, hg, rp, hok, q⟩ := h
  obtain ⟨its, rv, hl, hz⟩ := I.list hs
  rw [Vals.ref1 r]
  unfold okSort at hok
  simp only [Bool.and_eq_true, Bool.or_eq_true] at hok
  obtain ⟨⟨o1, o2⟩, o3⟩ := hok
  have okE : ∀ d ∈ ds, okD 64 d = true := fun d hd => by
    have : ∀ {ds : List D}, okDs 64 ds = true → ∀ d ∈ ds, okD 64 d = true := by
      intro ds
      induction ds with
      | nil => intro _ d hd; simp at hd
      | cons x ds ih =>
        intro h d hd
        rw [okDs_cons, Bool.and_eq_true] at h
        rcases List.mem_cons.mp hd with e | e
        · rw [e]; exact h.1
        · exact ih h.2 d e
    exact this o1 d hd
  have hlen : its.length = ds.length := by rw [← rv.length, rp.length]
  have e0 := each_of rv rp
  have er : PySem.W.EachIs (fun v b => ∃ as, Reads s.heap v (py b) as) its ds := by
    have : ∀ {us : List Value} {es : List D}, PySem.W.EachIs (RV X.K X.mg Ob G) us es → (∀ d ∈ es, okD 64 d = true) → PySem.W.EachIs (fun v b => ∃ as, Reads s.heap v (py b) as) us es := by
      intro us es h
      induction h with
      | nil => intro _; exact .nil
      | cons r t ih =>
        intro hk
        obtain ⟨x, h1, h2⟩ := r
        exact .cons (Dp.reads I _ _ _ (Dp.same hg (dp_of h2 (hk _ (by simp)))) h1) (ih fun d hd => hk d (by simp [hd]))
    exact this e0 okE
  have hal : PySem.W.AllAlike (ds.map py) := fun d hd d' hd' => by
    rw [pys_map] at o2
    exact List.all_eq_true.mp (List.all_eq_true.mp o2 d hd) d' hd'
  have hk : PySem.W.Sortable (ds.map py) := by
    rcases o3 with h | h
    · left
      intro d hd
      obtain ⟨e, he, rfl⟩ := List.mem_map.mp hd
      have := List.all_eq_true.mp h e he
      match e, this with
      | .tuple (x :: xs), _ => exact ⟨py x, pys xs, rfl⟩
    · right
      intro d hd
      obtain ⟨e, he, rfl⟩ := List.mem_map.mp hd
      have h1 := List.all_eq_true.mp h e he
      have h2 := okE e he
      cases e <;> simp [okD, py] at h1 h2 ⊢
  refine PySem.W.sorted_data (R := RV X.K X.mg Ob G) hl.isList e0 er hal hk (by rw [← hlen]; rw [← rv.length]; exact hz) (fun b hb => ?_) fun out ho hE => ?_
  · have := (ok_py b (okE b hb)).2
    omega
  · obtain ⟨ys, h1, h2⟩ := of_each hE
    obtain ⟨ep, he'⟩ := PyProof.Rows.sortedAll_at s.heap its (List.toArray out)
    have hl2 : ys.length ≤ sizeLine := by rw [h1.length, ho, ← hlen, ← rv.length]; exact hz
    exact ⟨.ref _, upd H (s.heap.objs.size + 1) (.lst ys), I.laid (t' := s.toks) (fun _ _ => PyProof.Rows.sortedAll_old) (Nat.le_succ _) ⟨hl2, out, ep, h1, by simpa using he'⟩, rfl, q ys _ h2 (I.hok.fresh (Nat.le_succ _))⟩
theorem Cok.hu70 {k : Nat} (c : Cok X E k) : X.A.units + 70 < cLine := by have := c.room.un; omega
theorem d_sortedD : CallD X T (rSortD X.K X.mg) (c1 gSortD) := cd1 fun O H S x a Q E so sa q => by
  unfold gSortD at q
  split at q
  · split at q
    · rename_i hk
      obtain ⟨p, vs, rfl, h1, t⟩ := sa.list
      exact ⟨p, vs, _, O.cs, hide O H, rfl, .inl (.inl h1), same_hide, t, hk, fun ys l ry hl => new_lst so ry q l hl⟩
    · exact q.elim
  · exact q.elim
end
/-! ### constants that are tuples of ints -/
section
variable {X : Cx} {T : Tb} {E : XKs}
/-- x is bound to a tuple of these ints, known from the head -/
def TupG (K : PySem.W.Frag) (mg : Str → Option Value) (x : Str) (ns : List Int) : Prop := ∃ a, mg x = some (.ref a) ∧ ∀ H : Hp, SqT K H a (ns.map V.int)
theorem de_glT {x : Str} {ns : List Int} {pos : Pos} (hm : TupG X.K X.mg x ns) (hg : Gl X x := by rfl) (hd : (x == ("__debug__" : Str)) = false := by decide) : DE X T E (.Name x pos) (eC (.tuple (ns.map .int))) := by
  obtain ⟨a, h, hs⟩ := hm
  exact de_const (pe_glob (v := .ref a) hg h rfl hd) fun O G => .tup (hs G) (rps_int ns)
theorem bt_sum : bootBuiltins "sum" = some (.builtin "sum") := by decide +kernel
theorem bt_set : bootBuiltins "set" = some (.type "set") := by decide +kernel
end
end Z
end
section
set_option maxHeartbeats 4000000
/-! enumerate(tuple). -/
namespace Z
open PySem PySem.Spec PyProof.Rows L2
/-- the new enumerate object over what iter(v) is -/
abbrev enumO (p : Addr) : Obj := { cls := .type "enumerate", data := .fields #[.none, .bool false, .ref p, rawInt 0, .none, .none] }
theorem enum_new1 {v : Value} {o : Obj} {H : Heap → Prop} (B : Begins v o H) : Meets (Builtin.«enumerate.__new__» ⟨[.type "enumerate", v], []⟩) (fun _ R z => H z.heap ∧ R (.ok (.ret (.ref (z.heap.push o).objs.size))) { z with heap := (z.heap.push o).push (enumO z.heap.objs.size) }) :=
  .of_wp fun prog w A R z q => by
    obtain ⟨hp, g, d, tk, os⟩ := z
    obtain ⟨hH, q⟩ := q
    have sub := sub_enumerate
    have it : ∀ (prog : Program) (w : World) (A : Around) (E : Value → Shared → Prop) (Q : Value → Shared → Prop), Q (.ref hp.objs.size) ⟨hp.push o, g, d, tk, os⟩ → wpAny (model prog w) A (pyIter v) Q E ⟨hp, g, d, tk, os⟩ := fun prog w A E Q h => B.iter prog w A E ⟨hp, g, d, tk, os⟩ Q hH h
    wp_walk
    refine wpAny_stack_any fun st => wpAny_pure ?_
    split
    · rename_i c _ _ _ _ _
      cases (c == Value.type "enumerate") <;> (wp_walk using it; exact ⟨_, rfl, q⟩)
    · wp_walk using it
      exact ⟨_, rfl, q⟩
section
variable {prog : Program} {w : World} {A : Around} {E : Value → Shared → Prop} {s : Shared}
theorem call_enum1 {v : Value} {o : Obj} {H : Heap → Prop} {Q : Value → Shared → Prop} (B : Begins v o H) (h1 : H s.heap)
    (k : ∀ g, IsEnum g (s.heap.objs.size + 1) s.heap.objs.size 0 .none → g.get? s.heap.objs.size = some o → (∀ b u, s.heap.get? b = some u → g.get? b = some u) → Q (.ref (s.heap.objs.size + 1)) { s with heap := g }) :
    wpAny (model prog w) A (call (.type "enumerate") [v]) Q E s := by
  have sz : (s.heap.push o).objs.size = s.heap.objs.size + 1 := Heap.size_push ..
  have at1 := Heap.get?_push_size (s.heap.push o) (o := enumO s.heap.objs.size) rfl
  rw [sz] at at1
  refine callType_new F.called_enumerate (by decide) (F.typeCall_enumerate_1 v) (F.newCall_enumerate_1 v) (fun obj => F.args_object_init_2 obj v) F.entry_enumerate_new (enum_new1 B) ⟨h1, ?_⟩
  rw [show (Shared.heap s |>.push o).objs.size = s.heap.objs.size + 1 from sz]
  exact ⟨⟨_, at1, rfl⟩, k _ at1 (Heap.get?_push_of_some _ (Heap.get?_push_size _ B.free)) fun b u x => Heap.get?_push_of_some _ (Heap.get?_push_of_some _ x)⟩
end
/-- (0, x), (1, y) .. of the tuple at a -/
def IteT (K : PySem.W.Frag) (a : Addr) : It :=
  ⟨fun i H => ∃ xs x, SqT K H a xs ∧ xs[i]? = some x, fun i H v H' => ∃ c x, v = .ref c ∧ H c = none ∧ H' = upd H c (.tup [.int (i : Nat), x]) ∧ ∀ xs, SqT K H a xs → xs[i]? = some x, fun i H => ∃ xs, SqT K H a xs ∧ xs.length ≤ i⟩
theorem turn_enumT {P : Program} {w : World} {K : PySem.W.Frag} {elts : List Expr} {kk : Nat} {tpos : Pos} (a e it : Addr) :
    Turn P w K (.Tuple elts kk tpos) (IteT K a) [e, it] e (fun i g => (∃ old, IsEnum g e it ((i : Nat) : Int) old) ∧ g.IsTupleIter it a i ∧ e ≠ it) where
  mem := List.mem_cons_self
  obj := fun i g ⟨⟨old, he⟩, ⟨oi, ho, _, hd⟩, _⟩ b hb => by
    rcases List.mem_cons.mp hb with rfl | hb
    · exact ⟨_, he, fun v q => nomatch q⟩
    · rcases List.mem_cons.mp hb with rfl | hb
      · exact ⟨oi, ho, fun v q => by rw [hd] at q; cases q⟩
      · cases hb
  keep := fun i g g' ⟨⟨old, he⟩, hi, ne⟩ k => ⟨⟨old, k e (by simp) _ he⟩, hi.at fun o q => k it (by simp) o q, ne⟩
  item := by
    intro X hP hw hK hc i pins s σ H E I hf st hg
    subst hP hw hK
    obtain ⟨⟨old, he⟩, hit, ne⟩ := st
    obtain ⟨xs, x, hq, hx⟩ := hg
    obtain ⟨its, rv, hT, hz⟩ := I.tuple hq
    obtain ⟨u, hu, ru⟩ := rv.get hx
    have le : e < s.heap.objs.size := Heap.lt_size he
    have li : it < s.heap.objs.size := by obtain ⟨_, q, _⟩ := hit; exact Heap.lt_size q
    have fr : ∀ b ∈ [e, it], b < s.heap.objs.size := fun b hb => by
      rcases List.mem_cons.mp hb with rfl | hb
      · exact le
      · rw [List.mem_singleton.mp hb]; exact li
    have nt : a ≠ it := fun z => by
      obtain ⟨o1, q1, c1, _⟩ := hit
      obtain ⟨o2, q2, c2, _⟩ := hT
      rw [← z, q2] at q1
      cases q1
      rw [c2] at c1
      injection c1 with c3
      exact absurd c3 (by decide)
    have nea : e ≠ a := fun z => by
      obtain ⟨o2, q2, c2, _⟩ := hT
      rw [← z, he] at q2
      cases q2
      injection c2 with c3
      exact absurd c3 (by decide)
    have hlt : i < its.toArray.size := by
      have := (List.getElem?_eq_some_iff.mp hu).1
      simpa using this
    refine wpAny_pyNext_enum_itemC (Draws.tuple (by simpa using I.ok.hd hc) it a nt its.toArray) he ⟨hit, hT⟩ hlt ne (by simp [ne, nea]) fun y g tk hy ho hit2 hTn hsz hk => ?_
    have ey : y = u := by
      have := hy
      simp only [List.getElem?_toArray] at this
      rw [hu] at this
      exact (Option.some.inj this).symm
    subst ey
    refine ⟨_, rfl, wpAny_letOwnedTupleGo_enum (s := { s with heap := g, toks := tk + 1 }) ho fun g2 he2 sb => ?_⟩
    have new2 : g2.get? s.heap.objs.size = some { cls := .type "tuple", data := .seq #[.int i tk, y] } := (sb.2 _ (Nat.ne_of_gt le)).trans hTn
    have nw : ObjOk X.prog X.w (upd H s.heap.objs.size (.tup [.int (i : Nat), x])) g2 s.heap.objs.size (.tup [.int (i : Nat), x]) :=
      ⟨by show 2 ≤ sizeLine; decide, [.int i tk, y], .cons ⟨_, rfl⟩ (.cons ru .nil), ⟨_, new2, rfl, _, rfl⟩⟩
    have J := I.turnedNew (t' := tk + 1) (ch := [e, it]) (h' := g2) (fun b ob hb q => (sb.2 b (fun z => hb (by simp [z]))).trans (hk b ob (fun z => hb (by simp [z])) (fun z => hb (by simp [z])) q)) hf (Nat.le_refl _) nw
    refine ⟨.ref s.heap.objs.size, _, J, rfl, ⟨_, x, rfl, I.hok.fresh (Nat.le_refl _), rfl, fun ys hy => by rw [I.tuple_inj hy hq]; exact hx⟩, ⟨⟨y, ?_⟩, hit2.1.at fun o q => (sb.2 it (Ne.symm ne)).trans q, ne⟩, fun b hb => ?_⟩
    · rw [show ((i + 1 : Nat) : Int) = (i : Int) + 1 by omega]; exact he2
    · rw [upd_ne (Nat.ne_of_lt (fr b hb))]
      exact (hf b hb).1
  done := by
    intro X hP hw hK hc i pins s σ H E I hf st hg
    subst hP hw hK
    obtain ⟨⟨old, he⟩, hit, ne⟩ := st
    obtain ⟨xs, hq, hx⟩ := hg
    obtain ⟨its, rv, hT, hz⟩ := I.tuple hq
    obtain ⟨f0, f1, f2, f3, f4, f5⟩ := hf it (by simp)
    have nt : a ≠ it := fun z => by
      obtain ⟨o1, q1, c1, _⟩ := hit
      obtain ⟨o2, q2, c2, _⟩ := hT
      rw [← z, q2] at q1
      cases q1
      rw [c2] at c1
      injection c1 with c3
      exact absurd c3 (by decide)
    have hl := rv.length
    have he1 : X.A.in1.handled = none := by simpa using I.ok.hd hc
    have D : Draws X.prog X.w X.A.in1 it [it, a] i (fun _ _ => True) (fun j g => i ≤ j ∧ g.IsTupleIter it a j ∧ g.IsTuple a its.toArray) :=
      ⟨fun j g st => let ⟨o, ho, _⟩ := st.2.1; ⟨o, ho⟩, fun j g g' st k => ⟨st.1, st.2.1.at fun o q => k it (by simp) o q, st.2.2.at fun o q => k a (by simp) o q⟩, fun j z Q E hj st _ => absurd st.1 (by omega),
        fun z Q E st q => wpAny_nextOf_tuple_end he1 st.2.1 st.2.2 (by simp; omega) q⟩
    exact wpAny_pyNext_enum_endD D he ⟨Nat.le_refl _, hit, hT⟩ fun g eb => ⟨rfl, I.turned (t' := s.toks) (fun b o hb q => eb b o hb q) f0 f1 f3 f4 f5⟩
  self := fun A i s Q E ⟨⟨_, he⟩, _⟩ h => wpAny_pyIter_enum he h
def iEnumT (K : PySem.W.Frag) (ta : TA) : TI := fun σ H R => ta σ H fun vs H1 => ∃ a xs, vs = [.ref a] ∧ SqT K H1 a xs ∧ R (IteT K a) H1
theorem pi_enumT {X : Cx} {e : Expr} {ta : TA} {p pos tpos : Pos} {elts : List Expr} {kk : Nat} (hg : Gl X "enumerate") (hm : X.mg "enumerate" = none) (ha : PA X [e] ta) (hs : starEach [e] X.env = [(false, eval e X.env)]) :
    PI X (.Tuple elts kk tpos) (.Call (.Name "enumerate" p) [e] [] pos) (iEnumT X.K ta) := by
  refine ⟨fun pins s σ H R I h => ?_⟩
  refine Call_ (ld_blt I hg hm boot_enumerate (PyProof.Rows.callWith_type1 (thn (ha.run pos pins s σ H _ I h) fun us s1 ⟨vs, H1, I1, r1, a, xs, ex, hq, q⟩ => ?_) hs rfl))
  subst ex
  rw [Vals.ref1 r1]
  obtain ⟨its, rv, hT, hz⟩ := I1.tuple hq
  refine call_enum1 (begins_tuple a its.toArray) hT fun g he hit k => wpAny_pyIter_enum he ?_
  have J : Inv X pins σ H1 { s1 with heap := g } := I1.kept (t' := s1.toks) k
  refine ⟨s1.heap.objs.size + 1, [s1.heap.objs.size + 1, s1.heap.objs.size], _, _, H1, rfl, J, turn_enumT a (s1.heap.objs.size + 1) s1.heap.objs.size, ⟨⟨.none, he⟩, ⟨_, hit, rfl, rfl⟩, Nat.succ_ne_self _⟩, fun b hb => ?_, q⟩
  have hle : s1.heap.objs.size ≤ b := by
    rcases List.mem_cons.mp hb with z | z
    · rw [z]; exact Nat.le_succ _
    · rw [List.mem_singleton.mp z]; exact Nat.le_refl _
  exact I1.fpOk hle (I1.hok.fresh hle)
/-! over data -/
def enumDs (n : Nat) : List D → List D
  | [] => []
  | d :: ds => .tuple [.int (n : Nat), d] :: enumDs (n + 1) ds
theorem enumDs_len : ∀ (ds : List D) (n : Nat), (enumDs n ds).length = ds.length
  | [], _ => rfl
  | d :: ds, n => by simp [enumDs, enumDs_len ds]
theorem enumDs_get : ∀ (ds : List D) (n i : Nat), (enumDs n ds)[i]? = (ds[i]?).map fun d => D.tuple [.int ((n + i : Nat)), d]
  | [], _, _ => rfl
  | d :: ds, n, 0 => rfl
  | d :: ds, n, i + 1 => by
    simp only [enumDs, List.getElem?_cons_succ]
    rw [enumDs_get ds (n + 1) i]
    congr 1
    funext x
    rw [show n + 1 + i = n + (i + 1) by omega]
def toEnum (d : D) : M Its := match d with
  | .tuple xs => if xs.length ≤ 1000000 then pure ⟨enumDs 0 xs, fun _ => true⟩ else no
  | _ => no
def iEn (f : BE) : BI := fun env => f env >>= toEnum
section
variable {X : Cx} {T : Tb} {E : XKs}
theorem dlv_e {K : PySem.W.Frag} {mg : Str → Option Value} {T : Tb} {O : Ow} {H : Hp} {a : Addr} {vs : List V} {ds : List D} (hs : SqT K (hide O H) a vs) (t : Rps K mg O.cs (hide O H) vs ds) : Dlv K mg T (IteT K a) ⟨enumDs 0 ds, fun _ => true⟩ O H := by
  refine ⟨fun O H => SqT K (hide O H) a vs ∧ Rps K mg O.cs (hide O H) vs ds, ⟨hs, t⟩, fun O H O' H' ⟨h1, h2⟩ l => ⟨Same.seqT l.same h1, h2.mono l.pre l.same⟩, fun i O H S ⟨h1, h2⟩ so _ => ⟨fun d hd => ?_, fun hl => ?_⟩⟩
  · rw [enumDs_get] at hd
    obtain ⟨e, he, rfl⟩ := Option.map_eq_some_iff.mp hd
    obtain ⟨v, hv, rv⟩ := h2.get he
    refine ⟨⟨vs, v, st_le h1, hv⟩, fun x H' ⟨c, y, ex, hc, eH, hy⟩ => ?_⟩
    have ey : y = v := by
      have := hy vs (st_le h1)
      rw [hv] at this
      exact (Option.some.inj this).symm
    subst ex eH ey
    refine ⟨Le.new hc, so.new hc, ?_⟩
    rw [Nat.zero_add]
    exact .tup (.inl (.inl (hide_of (so.ne hc) upd_same))) (.cons (.int _) (.cons (rv.le (Le.new hc)) .nil))
  · rw [enumDs_len] at hl
    exact ⟨vs, st_le h1, by rw [h2.length]; exact hl⟩
theorem di_enum {e : Expr} {f : BE} {p pos tpos : Pos} {elts : List Expr} {kk : Nat} (ha : DE X T E e f) (hm : X.mg "enumerate" = none) (hg : Gl X "enumerate" := by rfl) (hs : starEach [e] X.env = [(false, eval e X.env)] := by rfl) :
    DI X T E (.Tuple elts kk tpos) (.Call (.Name "enumerate" p) [e] [] pos) (iEn f) :=
  ⟨(pi_enumT hg hm (pa_cons ha.pe pa_nil (by rw [hs]; rfl)) hs).monoZ fun σ H Q ⟨env, S, O, re, so, q⟩ => ⟨env, S, O, re, so, PoI.bind q fun d S1 O1 H1 x l s1 r1 q1 => by
    unfold toEnum at q1
    split at q1
    · split at q1
      · cases r1 with
        | tup h t => exact ⟨_, _, rfl, st_le h, q1 O1 H1 _ Le.refl s1 (dlv_e h t)⟩
      · exact q1.elim
    · exact q1.elim⟩⟩
end
end Z
end
section
set_option maxHeartbeats 4000000
/-! Sets of rows of numbers and truths: the search. -/
namespace Z
open PySem PySem.Spec PyProof.Rows L2
section
variable {P : Program} {w : World} {A : Around} {E : Value → Shared → Prop} {s : Shared}
/-- b is a tuple of numbers (True is 1, False is 0) -/
def Row (P : Program) (w : World) (h : Heap) (r : List Int) (b : Addr) : Prop := IsTupleKey (leafKind P w) h (r.map Leaf.num) b
def rH (P : Program) (w : World) (r : List Int) : Int := tupleKeyHash (leafKind P w) (r.map Leaf.num)
theorem nums_inj : ∀ {r q : List Int}, r.map Leaf.num = q.map Leaf.num → r = q
  | [], [], _ => rfl
  | [], _ :: _, e => nomatch e
  | _ :: _, [], e => nomatch e
  | x :: r, y :: q, e => by
    rw [List.map_cons, List.map_cons] at e
    injection e with e1 e2
    injection e1 with e1
    rw [e1, nums_inj e2]
theorem Row.one {h : Heap} {r q : List Int} {b : Addr} (x : Row P w h r b) (y : Row P w h q b) : r = q := nums_inj (IsTupleKey.inj x y)
theorem Row.stay {h h' : Heap} {r : List Int} {b : Addr} (x : Row P w h r b) (k : ∀ o, h.get? b = some o → h'.get? b = some o) : Row P w h' r b := by
  obtain ⟨o, vs, n, h1, z⟩ := x
  exact ⟨o, vs, n, k o h1, z⟩
theorem Row.not_set {h : Heap} {r : List Int} {b a : Addr} {o : Obj} {es : Array (Int × Value)} {ep : Nat} {t : SetTable} (x : Row P w h r b) (ha : h.get? a = some o) (e : o.data = .set es ep t) : b ≠ a := by
  obtain ⟨o2, vs, n, h1, _, h2, _⟩ := x
  intro z
  rw [z, ha] at h1
  rw [Option.some.inj h1, h2] at e
  cases e
theorem Row.but {h h' : Heap} {r : List Int} {b a : Addr} {o : Obj} {es : Array (Int × Value)} {ep : Nat} {t : SetTable} (x : Row P w h r b) (ha : h.get? a = some o) (e : o.data = .set es ep t) (k : Heap.SameBut a h h') : Row P w h' r b :=
  x.stay fun u hu => by rw [k.2 b (x.not_set ha e)]; exact hu
/-! ### what the search asks of a row -/
def Nm : Value → Prop
  | .int _ _ => True
  | .bool _ => True
  | _ => False
theorem nm_items : ∀ {r : List Int} {vs : List Value}, ItemsAre (leafKind P w) (r.map Leaf.num) vs → ∀ v, v ∈ vs → Nm v
  | [], _, .nil, v, hv => by cases hv
  | x :: r, _, .cons (v := u) h1 t, v, hv => by
    rcases List.mem_cons.mp hv with e | hv
    · have h2 : Leaf.isOf (.num x) u = true := h1
      rw [e]
      cases u with
      | int _ _ => trivial
      | bool _ => trivial
      | _ => cases h2
    · exact nm_items t v hv
/-- a loop that only goes on -/
theorem loop_on {α β : Type} (f : α → β → Sem (ForInStep β)) (b : β) : ∀ l : List α, (∀ x, x ∈ l → f x b = pure (.yield b)) → forIn l b f = (pure b : Sem β)
  | [], _ => by rw [List.forIn_nil]
  | x :: l, h => by
    rw [List.forIn_cons, h x List.mem_cons_self]
    exact loop_on f b l fun y hy => h y (List.mem_cons_of_mem _ hy)
theorem nm_class {v : Value} (h : Nm v) (n : Nat) : ofAClassStatement n v = pure false := by
  cases v with
  | int _ _ => cases n <;> rfl
  | bool _ => cases n <;> rfl
  | _ => exact h.elim
theorem nm_hash {v : Value} (h : Nm v) (n : Nat) : hashByValue n v = pure true := by
  cases v with
  | int _ _ => cases n <;> rfl
  | bool _ => cases n <;> rfl
  | _ => exact h.elim
theorem Row.plainHash {r : List Int} {b : Addr} {Q : Bool → Shared → Prop} (x : Row P w s.heap r b) (q : Q true s) : wpAny (model P w) A (hashByValue 8 (.ref b)) Q E s := by
  have ty := IsTupleKey.typeIs x
  obtain ⟨o, vs, n, h1, _, h2, h3⟩ := x
  unfold hashByValue
  refine wpAny_bind (wpAny_specialOf ty F.slot_tuple_hash.lookup ?_)
  show wpAny _ A (seqItems? (.ref b) >>= _) Q E s
  refine wpAny_bind (wpAny_seqItems h1 h2 (wpAny_bind ?_))
  show wpAny _ A (forIn vs _ _) _ E s
  rw [← Array.forIn_toList, loop_on]
  · exact wpAny_pure (wpAny_pure q)
  · intro v hv
    rw [nm_hash (nm_items h3 v hv)]
    rfl
theorem Row.noClass {r : List Int} {b : Addr} {Q : Bool → Shared → Prop} (x : Row P w s.heap r b) (q : Q false s) : wpAny (model P w) A (ofAClassStatement 8 (.ref b)) Q E s := by
  have ty := IsTupleKey.typeIs x
  obtain ⟨o, vs, n, h1, _, h2, h3⟩ := x
  unfold ofAClassStatement
  refine wpAny_bind (wpAny_typeOf ty ?_)
  dsimp only
  simp only [show (("tuple" : String) == "tuple") = true from by decide, if_true, Bool.not_true, Bool.false_eq_true, if_false]
  try refine wpAny_bind (wpAny_pure ?_)
  try simp only [Bool.not_true, Bool.false_eq_true, if_false]
  show wpAny _ A (seqItems? (.ref b) >>= _) Q E s
  refine wpAny_bind (wpAny_seqItems h1 h2 ?_)
  dsimp only
  refine wpAny_bind ?_
  show wpAny _ A (forIn vs _ _) _ E s
  rw [← Array.forIn_toList, loop_on]
  · exact wpAny_pure (wpAny_pure q)
  · intro v hv
    rw [nm_class (nm_items h3 v hv)]
    rfl
/-- a search among rows can't be seen -/
theorem Row.unseen {r : List Int} {b : Addr} (x : Row P w s.heap r b) {ys : List Value} (hy : ∀ y, y ∈ ys → ∃ c q, y = .ref c ∧ Row P w s.heap q c) {Q : Bool → Shared → Prop} (q : Q false s) :
    wpAny (model P w) A (searchCouldBeSeen (.ref b) ys) Q E s := by
  unfold searchCouldBeSeen
  refine wpAny_bind (wpAny_forIn_list _ (fun l u z => (∀ y, y ∈ l → y ∈ ys) ∧ u.1 = none ∧ z = s) _ (fun v l u z J => ?_) (fun u z J => ?_) _ _ ⟨fun _ h => h, rfl, rfl⟩)
  · obtain ⟨J1, J2, rfl⟩ := J
    obtain ⟨c, k, rfl, y⟩ := hy v (J1 v List.mem_cons_self)
    have J3 : ∀ i, i ∈ l → i ∈ ys := fun i hi => J1 i (List.mem_cons_of_mem _ hi)
    dsimp only
    by_cases same : (b == c || (carriedByValue (.ref b) && carriedByValue (.ref c))) = true
    · exact wp_if_pos same (wpAny_pure ⟨J3, rfl, rfl⟩)
    refine wp_if_neg same (wpAny_bind (wpAny_eqIsQuiet_tuple x ?_))
    simp only [Bool.not_true, Bool.false_eq_true, if_false]
    refine wpAny_bind (wpAny_eqIsQuiet_tuple y ?_)
    simp only [Bool.not_true, Bool.false_eq_true, if_false]
    refine wpAny_bind (x.noClass ?_)
    simp only [Bool.false_eq_true, if_false]
    refine wpAny_bind (y.noClass ?_)
    simp only [Bool.false_eq_true, if_false]
    exact wpAny_pure ⟨J3, rfl, rfl⟩
  · obtain ⟨J1, J2, rfl⟩ := J
    obtain ⟨u1, u2⟩ := u
    have e : u1 = none := J2
    rw [e]
    exact wpAny_pure q
/-! ### a set of rows -/
abbrev AR := Addr × List Int
def tabRows (P : Program) (w : World) (L : List AR) : List (Int × Value) := L.map fun q => (rH P w q.2, Value.ref q.1)
structure RS (P : Program) (w : World) (h : Heap) (a : Addr) (L : List AR) (es : Array (Int × Value)) (ep : Nat) (t : SetTable) : Prop where
  obj : ∃ o, h.get? a = some o ∧ o.ExactSet ∧ o.data = .set es ep t
  held : es.toList = tabRows P w L
  tab : TabOk t (L.map fun q => rH P w q.2)
  once : (L.map Prod.snd).Nodup
  rows : ∀ q, q ∈ L → Row P w h q.2 q.1
  flat : t.plain = true
  leads : w.params.followText "set-order" = true ∨ t.led = true
  cap : L.length ≤ t.mask
variable {a : Addr} {L : List AR} {es : Array (Int × Value)} {ep : Nat} {t : SetTable}
theorem tabRows_len (L : List AR) : (tabRows P w L).length = L.length := by unfold tabRows; rw [List.length_map]
theorem RS.sz (R : RS P w s.heap a L es ep t) : es.size = L.length := by rw [← Array.length_toList, R.held, tabRows_len]
theorem RS.psz (R : RS P w s.heap a L es ep t) : t.place.toList.length = L.length := by
  have := R.tab.sz
  rw [List.length_map] at this
  rw [Array.length_toList, this]
theorem RS.good (R : RS P w s.heap a L es ep t) : t.fits es.size = true := by
  have h1 := R.psz
  have h2 := R.cap
  rw [Array.length_toList] at h1
  unfold SetTable.fits SetTable.fill
  rw [R.tab.dm, R.sz, h1]
  simp
  omega
theorem RS.nth (R : RS P w s.heap a L es ep t) {i : Nat} {q : AR} (h : L[i]? = some q) : es[i]? = some (rH P w q.2, .ref q.1) := by
  have : (tabRows P w L)[i]? = some (rH P w q.2, Value.ref q.1) := by unfold tabRows; rw [List.getElem?_map, h]; rfl
  rw [← R.held, Array.getElem?_toList] at this
  exact this
theorem RS.here (R : RS P w s.heap a L es ep t) {i j : Nat} (h : t.place.toList[i]? = some j) : ∃ q, L[i]? = some q := by
  have h1 := (List.getElem?_eq_some_iff.mp h).1
  rw [R.psz] at h1
  exact ⟨L[i], List.getElem?_eq_getElem h1⟩
theorem adv_dummy (m : Nat) : ∀ (n : Nat) (p : SetTable.Probe), p.dummy = none → (nth m p n).dummy = none
  | 0, _, h => h
  | n + 1, p, h => by
    refine adv_dummy m n (adv m p) ?_
    unfold adv
    split <;> exact h
theorem RS.given (R : RS P w s.heap a L es ep t) : ¬ t.gaveWay = true := by
  have h := mask_odd R.tab.mok
  unfold SetTable.gaveWay
  rw [h]
  decide
end
end Z
end
section
set_option maxHeartbeats 4000000
/-! Sets of rows: the search. -/
namespace Z
open PySem PySem.Spec PyProof.Rows L2
section
variable {P : Program} {w : World} {A : Around} {E : Value → Shared → Prop} {s : Shared}
variable {a : Addr} {L : List AR} {es : Array (Int × Value)} {ep : Nat} {t : SetTable}
/-- behind a candidate: the row itself, or on -/
theorem seek_rest (R : RS P w s.heap a L es ep t) {r : List Int} {x : Addr} (hx : Row P w s.heap r x) (hu : A.units < cLine) {Q : SetFound → Shared → Prop} {f i j : Nat} {q : AR} {nx : SetTable.Probe}
    (hq : L[i]? = some q) (hj : t.place.toList[i]? = some j) (yes : q.2 = r → Q (.there none) s) (no' : q.2 ≠ r → wpAny (model P w) A (setSearchFrom a (.ref x) (rH P w r) true f (some nx)) Q E s) :
    wpAny (model P w) A (searchRest a (.ref x) (rH P w r) true f es t j i nx) Q E s := by
  obtain ⟨o, hob, hex, hdt⟩ := R.obj
  have hrow := R.rows q (List.mem_of_getElem? hq)
  have hsl : t.slot j = .live i := slot_live R.tab.ris hj
  unfold searchRest
  rw [R.nth hq]
  dsimp only
  refine wpAny_bind (wpAny_holding (wpAny_eqBool_tuple hu hrow hx (wpAny_bind (wpAny_setState_of hob hdt R.good ?_))))
  dsimp only
  by_cases e : q.2 = r
  · exact wp_if_pos (by simp [e]) (wpAny_pure (yes e))
  · have ne : ¬ q.2.map Leaf.num = r.map Leaf.num := fun z => e (nums_inj z)
    refine wp_if_neg (by simp [ne]) ?_
    try refine wpAny_bind (wpAny_pure ?_)
    rw [sameMem]
    dsimp only
    simp only [if_true, hsl, R.nth hq]
    refine wpAny_bind (wpAny_isSame_ref_self (wpAny_bind (wpAny_pure ?_)))
    simp only [if_true]
    exact wp_if_neg (by simp [ne]) (no' e)
/-- the search, from a place of the way that is n steps before the first empty slot -/
theorem seek (R : RS P w s.heap a L es ep t) {r : List Int} {x : Addr} (hx : Row P w s.heap r x) (hu : A.units < cLine) {Q : SetFound → Shared → Prop} (yes : r ∈ L.map Prod.snd → Q (.there none) s) :
    ∀ (n f : Nat) (p : SetTable.Probe) (st : Option SetTable.Probe), st.getD (t.probeStart (rH P w r)) = p → p.dummy = none → n < f → n < 10 * SetTable.turns t.mask →
      (∀ k, k < n → (nth t.mask p k).j ∈ t.place.toList) → (nth t.mask p n).j ∉ t.place.toList →
      (∀ (i : Nat) (q : AR), L[i]? = some q → q.2 = r → ∃ k, k < n ∧ t.place.toList[i]? = some (nth t.mask p k).j) → (r ∉ L.map Prod.snd → Q (.free (nth t.mask p n).j false) s) →
      wpAny (model P w) A (setSearchFrom a (.ref x) (rH P w r) true f st) Q E s := by
  intro n
  induction n using Nat.strongRecOn with
  | ind n ih =>
  intro f p st hp hdm hf hT occ emp mine out
  obtain ⟨o, hob, hex, hdt⟩ := R.obj
  cases f with
  | zero => omega
  | succ f =>
  have hashes : ∀ (i : Nat) (q : AR), L[i]? = some q → (fun i => (es[i]?.map (·.1)).getD 0) i = rH P w q.2 := fun i q hq => by
    show (es[i]?.map (·.1)).getD 0 = _
    rw [R.nth hq]
    rfl
  rw [setSearchFrom_succ]
  refine wpAny_bind (wpAny_setState_of hob hdt R.good ?_)
  dsimp only
  refine wp_if_neg R.given ?_
  try refine wpAny_bind (wpAny_pure ?_)
  rw [hp]
  rcases go_spec t R.tab.ris R.tab.dm (fun i => (es[i]?.map (·.1)).getD 0) (rH P w r) (10 * SetTable.turns t.mask) n p hdm hT occ emp with ⟨k, i, hk, hi, hh, first, met⟩ | ⟨none', met⟩
  · have met' : t.probe (fun i => (es[i]?.map (·.1)).getD 0) (rH P w r) p = some (.candidate (nth t.mask p k).j i (nth t.mask p (k + 1))) := met
    rw [met']
    dsimp only
    obtain ⟨q, hq⟩ := R.here hi
    have go : wpAny (model P w) A (searchRest a (.ref x) (rH P w r) true f es t (nth t.mask p k).j i (nth t.mask p (k + 1))) Q E s := by
      refine seek_rest R hx hu hq hi (fun e => yes ?_) fun ne => ?_
      · rw [← e]
        exact List.mem_map.mpr ⟨q, List.mem_of_getElem? hq, rfl⟩
      · have sh : ∀ c, nth t.mask (nth t.mask p (k + 1)) c = nth t.mask p (k + 1 + c) := fun c => (nth_add t.mask (k + 1) p c).symm
        have en : nth t.mask (nth t.mask p (k + 1)) (n - (k + 1)) = nth t.mask p n := by
          rw [sh]
          congr 1
          omega
        refine ih (n - (k + 1)) (by omega) f (nth t.mask p (k + 1)) _ rfl (adv_dummy _ _ _ hdm) (by omega) (by omega) (fun c hc => ?_) ?_ (fun i0 q0 h0 e0 => ?_) fun h => ?_
        · rw [sh]
          exact occ _ (by omega)
        · rw [en]
          exact emp
        · obtain ⟨c, hc, hpl⟩ := mine i0 q0 h0 e0
          have gt : k < c := by
            rcases Nat.lt_trichotomy c k with z | z | z
            · have := first c i0 z hpl
              exact absurd ((hashes i0 q0 h0).trans (by rw [e0])) this
            · rw [z] at hpl
              have e1 := slot_live R.tab.ris hpl
              rw [slot_live R.tab.ris hi] at e1
              injection e1 with e1
              rw [← e1, hq] at h0
              rw [← Option.some.inj h0] at e0
              exact absurd e0 ne
            · exact z
          refine ⟨c - (k + 1), by omega, ?_⟩
          rw [sh, hpl]
          congr 3
          omega
        · rw [en]
          exact out h
    by_cases led : t.led = true
    · refine wp_if_neg (by simp [led]) ?_
      try refine wpAny_bind (wpAny_pure ?_)
      exact go
    · refine wp_if_pos (by simp [led]) (wpAny_bind (hx.unseen (fun y hy => ?_) ?_))
      · obtain ⟨en, h1, h2⟩ := List.mem_map.mp hy
        have h3 : en ∈ es.toList := by
          have : en ∈ es ∧ en.1 = rH P w r := by simpa using h1
          simpa using this.1
        rw [R.held] at h3
        obtain ⟨q1, h4, h5⟩ := List.mem_map.mp h3
        exact ⟨q1.1, q1.2, by rw [← h2, ← h5], R.rows q1 h4⟩
      · refine wp_if_neg (by decide) ?_
        try refine wpAny_bind (wpAny_pure ?_)
        exact go
  · have met' : t.probe (fun i => (es[i]?.map (·.1)).getD 0) (rH P w r) p = some (.empty (nth t.mask p n).j none) := met
    rw [met']
    dsimp only
    refine wpAny_pure (out fun h => ?_)
    obtain ⟨q, h1, h2⟩ := List.mem_map.mp h
    obtain ⟨i, hi⟩ := List.mem_iff_getElem?.mp h1
    obtain ⟨c, hc, hpl⟩ := mine i q hi h2
    have := none' c i hc hpl
    exact this ((hashes i q hi).trans (by rw [h2]))
/-- the search as adding asks for it -/
theorem seek_start (R : RS P w s.heap a L es ep t) {r : List Int} {x : Addr} (hx : Row P w s.heap r x) (hu : A.units < cLine) {Q : SetFound → Shared → Prop} (yes : r ∈ L.map Prod.snd → Q (.there none) s)
    (out : ∀ n, r ∉ L.map Prod.snd → way t.mask (rH P w r) n ∉ t.place.toList → (∀ k, k < n → way t.mask (rH P w r) k ∈ t.place.toList) → Q (.free (way t.mask (rH P w r) n) false) s) :
    wpAny (model P w) A (setSearch a (.ref x) (rH P w r) true) Q E s := by
  obtain ⟨n, h1, h2, h3⟩ := R.tab.first (by rw [List.length_map]; exact R.cap) (rH P w r)
  have big : 10 * SetTable.turns t.mask < 100000 := by
    unfold SetTable.turns
    rcases R.tab.mok with e | e | e <;> omega
  unfold setSearch
  refine seek R hx hu yes n 100000 (t.probeStart (rH P w r)) none rfl rfl (by omega) h1 h3 h2 (fun i q hq e => ?_) fun h => out n h h2 h3
  have hi : i < t.place.toList.length := by
    rw [R.psz]
    exact (List.getElem?_eq_some_iff.mp hq).1
  obtain ⟨k, hk, e2⟩ := R.tab.before (h := rH P w r) h2 (i := i) (by rw [List.getElem?_map, hq, ← e]; rfl) (List.getElem?_eq_getElem hi)
  exact ⟨k, hk, by rw [List.getElem?_eq_getElem hi]; exact congrArg some e2.symm⟩
end
end Z
end
section
set_option maxHeartbeats 4000000
/-! Sets of rows: adding. -/
namespace Z
open PySem PySem.Spec PyProof.Rows L2
section
variable {P : Program} {w : World} {A : Around} {E : Value → Shared → Prop} {s : Shared}
variable {a : Addr} {L : List AR} {es : Array (Int × Value)} {ep : Nat} {t : SetTable}
/-- rows told by a list of places -/
theorem picks (R : RS P w s.heap a L es ep t) : ∀ (l : List Nat), (∀ i, i ∈ l → i < L.length) → ∃ L', L' = l.filterMap (fun i => L[i]?) ∧ l.filterMap (fun i => es[i]?) = tabRows P w L' ∧ (L'.map fun q => rH P w q.2) = l.map (fun i => (es.map (·.1)).getD i 0)
  | [], _ => ⟨[], rfl, rfl, rfl⟩
  | i :: l, h => by
    obtain ⟨L', h1, h2, h3⟩ := picks R l fun k hk => h k (List.mem_cons_of_mem _ hk)
    have hi := h i List.mem_cons_self
    have e1 : L[i]? = some L[i] := List.getElem?_eq_getElem hi
    have e2 := R.nth e1
    refine ⟨L[i] :: L', by rw [List.filterMap_cons, e1, h1], ?_, ?_⟩
    · rw [List.filterMap_cons, e2, h2]
      rfl
    · rw [List.map_cons, List.map_cons, h3]
      congr 1
      have e3 : (es.map (·.1))[i]? = some (rH P w (L[i]).2) := by rw [Array.getElem?_map, e2]; rfl
      simp only [Array.getD_eq_getD_getElem?]
      rw [e3]
      rfl
theorem all_picks {α : Type} (l : List α) : (List.range l.length).filterMap (fun i => l[i]?) = l := by
  induction l with
  | nil => rfl
  | cons x l ih =>
    rw [List.length_cons, List.range_succ_eq_map, List.filterMap_cons, List.filterMap_map]
    show x :: (List.range l.length).filterMap (fun i => (x :: l)[i + 1]?) = _
    simp only [List.getElem?_cons_succ]
    rw [ih]
/-- the table laid anew -/
theorem lay_anew (R : RS P w s.heap a L es ep t) {n M : Nat} (h1 : SetTable.sizeAbove n - 1 = M) (h2 : MaskOk M) (h3 : SetTable.sizeAbove n ≤ 128) (h4 : L.length ≤ M) {Q : Unit → Shared → Prop}
    (q : ∀ h' L' es' ep' t', Heap.SameBut a s.heap h' → RS P w h' a L' es' ep' t' → t'.mask = M → L'.Perm L → Q () { s with heap := h' }) : wpAny (model P w) A (setRelay a n) Q E s := by
  obtain ⟨o, hob, hex, hdt⟩ := R.obj
  obtain ⟨t', ord, e1, e2, T, e3, e4, e5, _⟩ := relaid_ok t (hs := es.map (·.1)) (wanted := n) h1 h2 (by rw [Array.size_map, R.sz]; exact h4)
  rw [Array.size_map, R.sz] at e2
  obtain ⟨L', p1, p2, p3⟩ := picks R ord.toList fun i hi => List.mem_range.mp (e2.mem_iff.mp hi)
  rw [← p3] at T
  have pm : L'.Perm L := by
    have := e2.filterMap (fun i => L[i]?)
    rw [all_picks, ← p1] at this
    exact this
  have p4 : (ord.filterMap (fun i => es[i]?)).toList = tabRows P w L' := by rw [← p2]; simp
  have sz' : (ord.filterMap (fun i => es[i]?)).size = es.size := by
    rw [← Array.length_toList, p4, tabRows_len, pm.length_eq, R.sz]
  rw [setRelay_eq]
  refine wpAny_bind (wpAny_setState_of hob hdt R.good ?_)
  dsimp only
  refine wp_if_neg (by rw [sizeLine_eq]; omega) ?_
  try refine wpAny_bind (wpAny_pure ?_)
  rw [e1]
  dsimp only
  refine wpAny_bind ?_
  refine wp_if_neg (by rw [sz']; simp) ?_
  try refine wpAny_bind (wpAny_pure ?_)
  refine wpAny_pure ?_
  dsimp only
  refine wpAny_storeSet_of hob hdt ?_ (by
    rw [sz', R.sz, sizeLine_eq]
    rcases h2 with z | z | z <;> omega)
  have but : Heap.SameBut a s.heap (s.heap.update a (Obj.putSet (ord.filterMap (fun i => es[i]?)) t')) := Heap.SameBut.update ..
  refine q _ L' (ord.filterMap (fun i => es[i]?)) (ep + 1) t' but ⟨⟨_, store_at hob hdt, ⟨hex.1, hex.2.1, hex.2.2⟩, rfl⟩, p4, T, (pm.map Prod.snd).nodup_iff.mpr R.once, fun z hz => (R.rows z (pm.mem_iff.mp hz)).but hob hdt but, by rw [e5]; exact R.flat, by rw [e4]; exact R.leads, by rw [e3, pm.length_eq]; exact h4⟩ e3 pm
/-- what adding leaves -/
def Grows (L : List AR) (q : AR) (L' : List AR) : Prop := (q.2 ∈ L.map Prod.snd ∧ L' = L) ∨ (q.2 ∉ L.map Prod.snd ∧ L'.Perm (q :: L))
def Loose (L : List AR) (t : SetTable) : Prop := L.length * 5 < t.mask * 3
theorem add_row (R : RS P w s.heap a L es ep t) (lo : Loose L t) {r : List Int} {x : Addr} (hx : Row P w s.heap r x) (hu : A.units < cLine) (few : L.length < 76) {Q : Bool → Shared → Prop}
    (q : ∀ b h' L' es' ep' t', Heap.SameBut a s.heap h' → RS P w h' a L' es' ep' t' → Loose L' t' → Grows L (x, r) L' → Q b { s with heap := h' }) :
    wpAny (model P w) A (setAddHashed a (.ref x) (rH P w r)) Q E s := by
  obtain ⟨o, hob, hex, hdt⟩ := R.obj
  have esz := R.sz
  unfold setAddHashed
  refine wpAny_holding ?_
  rw [show (100000 : Nat) = 99999 + 1 from rfl, setAddHashedIn_succ]
  refine wpAny_bind (wpAny_setState_of hob hdt R.good ?_)
  dsimp only
  refine wp_if_neg (by simp [byScan, Value.scannable]) ?_
  try refine wpAny_bind (wpAny_pure ?_)
  refine wpAny_bind (seek_start R hx hu (fun old => ?_) fun n new hn hb => ?_)
  · exact wpAny_pure (q false s.heap L es ep t (Heap.SameBut.refl a s.heap) R lo (.inl ⟨old, rfl⟩))
  · dsimp only
    refine wpAny_bind (wpAny_setState_of hob hdt R.good ?_)
    dsimp only
    obtain ⟨q1, q2, T, em, el, ef, _, _, efill⟩ := R.tab.put hn hb
    have fl1 : (t.put (way t.mask (rH P w r) n)).1.plain = true := by rw [ef]; exact R.flat
    generalize t.put (way t.mask (rH P w r) n) = pt at q1 T em el ef efill fl1 ⊢
    obtain ⟨t1, p1⟩ := pt
    dsimp only at q1 T em el ef efill fl1 ⊢
    rw [← q1] at q2 T
    clear q1
    rw [List.length_map] at efill q2
    first
      | (refine wpAny_bind ?_; refine wp_if_pos fl1 ?_; refine hx.plainHash ?_)
      | refine wp_if_pos fl1 (wpAny_bind (hx.plainHash ?_))
    simp only [if_true]
    have pm := put_perm L p1 (x, r)
    have held1 : (SetTable.insertAt es p1 (rH P w r, Value.ref x)).toList = tabRows P w (L.take p1 ++ (x, r) :: L.drop p1) := by
      rw [SetTable.toList_insertAt, R.held]
      unfold tabRows
      rw [List.map_append, List.map_cons, List.map_take, List.map_drop]
    have T1 : TabOk t1 ((L.take p1 ++ (x, r) :: L.drop p1).map fun q => rH P w q.2) := by
      rw [List.map_append, List.map_cons, List.map_take, List.map_drop]
      exact T
    clear T
    generalize L.take p1 ++ (x, r) :: L.drop p1 = L1 at pm held1 T1
    generalize SetTable.insertAt es p1 (rH P w r, Value.ref x) = es1 at held1 ⊢
    have len1 : L1.length = L.length + 1 := pm.length_eq
    have esz1 : es1.size = L.length + 1 := by rw [← Array.length_toList, held1, tabRows_len, len1]
    refine wpAny_bind (wpAny_storeSet_of hob hdt ?_ (by rw [esz1, sizeLine_eq]; omega))
    have but : Heap.SameBut a s.heap (s.heap.update a (Obj.putSet es1 t1)) := Heap.SameBut.update ..
    have hob1 := store_at (es' := es1) (t' := t1) hob hdt
    have cap1 : L1.length ≤ t1.mask := by
      rw [len1, em]
      unfold Loose at lo
      omega
    have R1 : RS P w (s.heap.update a (Obj.putSet es1 t1)) a L1 es1 (ep + 1) t1 := by
      refine ⟨⟨_, hob1, ⟨hex.1, hex.2.1, hex.2.2⟩, rfl⟩, held1, T1, ?_, fun z hz => ?_, fl1, by rw [el]; exact R.leads, cap1⟩
      · refine (pm.map Prod.snd).nodup_iff.mpr ?_
        rw [List.map_cons]
        exact List.nodup_cons.mpr ⟨new, R.once⟩
      · rcases List.mem_cons.mp (pm.mem_iff.mp hz) with e | hz
        · rw [e]; exact hx.but hob hdt but
        · exact (R.rows z hz).but hob hdt but
    generalize s.heap.update a (Obj.putSet es1 t1) = g1 at but R1 ⊢
    have full : t1.tooFull = decide ((L.length + 1) * 5 ≥ t1.mask * 3) := by
      unfold SetTable.tooFull
      rw [efill]
    by_cases hf : t1.tooFull = true
    · have big : (L.length + 1) * 5 ≥ t1.mask * 3 := by
        rw [full] at hf
        exact of_decide_eq_true hf
      have wide : ∀ M, SetTable.sizeAbove (SetTable.grown (L.length + 1)) = M + 1 → MaskOk M → M < 128 → (L.length + 1) * 5 < M * 3 →
          wpAny (model P w) A (setRelay a (SetTable.grown (es.size + 1))) (fun _ z => wpAny (model P w) A (pure true) Q E z) E { s with heap := g1 } := fun M m1 m2 m3 m4 => by
        rw [esz]
        refine lay_anew (s := { s with heap := g1 }) R1 (M := M) (by omega) m2 (by omega) (by omega) fun h2 L2 es2 ep2 t2 b2 R2 mk pm2 => ?_
        exact wpAny_pure (q true h2 L2 es2 ep2 t2 (but.trans b2) R2 (by unfold Loose; rw [mk, pm2.length_eq, len1]; exact m4) (.inr ⟨new, pm2.trans pm⟩))
      have go : wpAny (model P w) A (setRelay a (SetTable.grown (es.size + 1))) (fun _ z => wpAny (model P w) A (pure true) Q E z) E { s with heap := g1 } := by
        unfold Loose at lo
        rcases R.tab.mok with e | e | e
        · have n4 : L.length + 1 = 5 := by rw [em, e] at big; rw [e] at lo; omega
          exact wide 31 (by rw [n4]; exact size_20) (.inr (.inl rfl)) (by omega) (by omega)
        · have n4 : L.length + 1 = 19 := by rw [em, e] at big; rw [e] at lo; omega
          exact wide 127 (by rw [n4]; exact size_76) (.inr (.inr rfl)) (by omega) (by omega)
        · rw [em, e] at big
          omega
      first
        | (refine wpAny_bind ?_; refine wp_if_pos (by simp [hf]) ?_; exact go)
        | (refine wp_if_pos (by simp [hf]) ?_; refine wpAny_bind ?_; exact go)
    · have lo1 : Loose L1 t1 := by
        rw [full] at hf
        unfold Loose
        rw [len1]
        have := of_decide_eq_false (Bool.eq_false_iff.mpr hf)
        omega
      first
        | refine wp_if_neg (by simp [hf]) ?_
        | (refine wpAny_bind ?_; refine wp_if_neg (by simp [hf]) ?_; refine wpAny_pure ?_)
      exact wpAny_pure (q true g1 L1 es1 (ep + 1) t1 but R1 lo1 (.inr ⟨new, pm⟩))
end
end Z
end
section
set_option maxHeartbeats 4000000
/-! Sets of rows: set(xs). -/
namespace Z
open PySem PySem.Spec PyProof.Rows L2
/-- what a set has got from the rows so far -/
structure Off (done L : List AR) : Prop where
  sub : ∀ q, q ∈ L → q ∈ done
  all : ∀ q, q ∈ done → q.2 ∈ L.map Prod.snd
  len : L.length ≤ done.length
theorem Off.next {done L L' : List AR} {q : AR} (o : Off done L) (g : Grows L q L') : Off (done ++ [q]) L' := by
  rcases g with ⟨h, rfl⟩ | ⟨h, pm⟩
  · refine ⟨fun z hz => List.mem_append_left _ (o.sub z hz), fun z hz => ?_, by rw [List.length_append]; exact Nat.le_add_right_of_le o.len⟩
    rcases List.mem_append.mp hz with hz | hz
    · exact o.all z hz
    · rw [List.mem_singleton.mp hz]
      exact h
  · refine ⟨fun z hz => ?_, fun z hz => ?_, by rw [pm.length_eq, List.length_append]; exact Nat.succ_le_succ o.len⟩
    · rcases List.mem_cons.mp (pm.mem_iff.mp hz) with e | hz
      · rw [e]
        simp
      · exact List.mem_append_left _ (o.sub z hz)
    · rw [(pm.map Prod.snd).mem_iff, List.map_cons]
      rcases List.mem_append.mp hz with hz | hz
      · exact List.mem_cons_of_mem _ (o.all z hz)
      · rw [List.mem_singleton.mp hz]
        exact List.mem_cons_self
section
variable {P : Program} {w : World} {A : Around} {E : Value → Shared → Prop} {s : Shared}
def Kept (h h' : Heap) : Prop := ∀ b o, h.get? b = some o → h'.get? b = some o
theorem RS.move {h h' : Heap} {a : Addr} {L : List AR} {es : Array (Int × Value)} {ep : Nat} {t : SetTable} (R : RS P w h a L es ep t) (ka : ∀ o, h.get? a = some o → h'.get? a = some o) (kr : ∀ q, q ∈ L → Row P w h' q.2 q.1) : RS P w h' a L es ep t := by
  obtain ⟨o, h1, h2⟩ := R.obj
  exact { obj := ⟨o, ka o h1, h2⟩, held := R.held, tab := R.tab, once := R.once, rows := kr, flat := R.flat, leads := R.leads, cap := R.cap }
def HasSet (P : Program) (w : World) (h : Heap) (a : Addr) (done : List AR) : Prop := ∃ L es ep t, RS P w h a L es ep t ∧ Loose L t ∧ Off done L
/-- a new set's object -/
def newSet (w : World) : Obj := { cls := .type "set", dict := none, data := .set #[] 0 (.fresh 0 0 (!w.params.followText "set-order")) }
theorem hasSet_new {h : Heap} {a : Addr} (e : h.get? a = some (newSet w)) : HasSet P w h a [] := by
  refine ⟨[], #[], 0, .fresh 0 0 (!w.params.followText "set-order"), ⟨⟨_, e, ⟨rfl, rfl, rfl⟩, rfl⟩, rfl, ⟨List.Pairwise.nil, rfl, rfl, .inl rfl, fun _ z => (by cases z), fun i _ _ z => (by simp at z)⟩, List.nodup_nil, fun _ z => (by cases z), rfl, ?_, Nat.zero_le _⟩, (show 0 * 5 < 7 * 3 by decide), ⟨fun _ z => (by cases z), fun _ z => (by cases z), Nat.le_refl _⟩⟩
  show _ ∨ (!w.params.followText "set-order") = true
  cases w.params.followText "set-order" <;> simp
/-- the loop that fills a set from a list of rows -/
theorem fill_rows {S I l : Addr} {ks : List AR} {G : Result → Shared → Prop} (hSI : S ≠ I) (hSl : S ≠ l) (hlI : l ≠ I) (few : ks.length ≤ 76) {h0 : Heap} (rows : ∀ q, q ∈ ks → Row P w h0 q.2 q.1) (hS : h0.get? S = none) (hI : h0.get? I = none)
    (hu : A.in1.units < cLine) (hh : A.in1.handled = none) : ∀ (rest done : List AR) (s : Shared), ks = done ++ rest → s.heap.IsListIter I l done.length → s.heap.IsList l (ks.map fun q => Value.ref q.1).toArray → Kept h0 s.heap → HasSet P w s.heap S done →
      (∀ h' tk, Kept h0 h' → HasSet P w h' S ks → G (.ok (.ret .none)) { s with heap := h', toks := tk }) → codeAny (model P w) A (.builtin "set.update.loop" ⟨[.ref S, .ref I], []⟩) G s := by
  have W := Walks.list (prog := P) (w := w) (A := A.in1) hh I l hlI (ks.map fun q => Value.ref q.1).toArray
  have wz : (ks.map fun q => Value.ref q.1).toArray.size = ks.length := by simp
  intro rest
  induction rest with
  | nil =>
    intro done s ek hit hls kp ⟨L, es, ep, t, R, lo, off⟩ goal
    rw [List.append_nil] at ek
    subst ek
    refine codeAny_builtin F.entry_set_update_loop ?_
    rw [Around.under_plainId F.plain_set_update_loop _]
    show wpAny _ A.in1 (pyNext (.ref I) >>= _) _ _ s
    refine wpAny_bind (W.done s _ _ ⟨by rw [wz]; exact hit, hls⟩ fun h' tk k' => ?_)
    show wpAny _ A.in1 (ret Value.none) _ _ _
    have kp' : Kept h0 h' := fun b o e => k' b o (fun z => by rw [List.mem_singleton.mp z, hI] at e; cases e) (kp b o e)
    refine wpAny_pure (goal h' tk kp' ⟨L, es, ep, t, R.move (fun o e => k' S o (by rw [List.mem_singleton]; exact hSI) e) (fun q hq => (rows q (off.sub q hq)).stay fun o e => kp' _ o e), lo, off⟩)
  | cons q rest ih =>
    intro done s ek hit hls kp ⟨L, es, ep, t, R, lo, off⟩ goal
    have hz : done.length < ks.length := by rw [ek, List.length_append, List.length_cons]; omega
    refine codeAny_builtin F.entry_set_update_loop ?_
    rw [Around.under_plainId F.plain_set_update_loop _]
    show wpAny _ A.in1 (pyNext (.ref I) >>= _) _ _ s
    refine wpAny_bind (W.item done.length s _ _ (by rw [wz]; exact hz) ⟨hit, hls⟩ fun v h' tk hv st k' => ?_)
    have ev : v = .ref q.1 := by
      rw [ek] at hv
      simp at hv
      exact hv.symm
    subst ev
    have kp' : Kept h0 h' := fun b o e => k' b o (fun z => by rw [List.mem_singleton.mp z, hI] at e; cases e) (kp b o e)
    have mq : q ∈ ks := by rw [ek]; simp
    have sub : ∀ z, z ∈ L → z ∈ ks := fun z hz' => by rw [ek]; exact List.mem_append_left _ (off.sub z hz')
    have R' := R.move (fun o e => k' S o (by rw [List.mem_singleton]; exact hSI) e) (fun z hz' => (rows z (sub z hz')).stay fun o e => kp' _ o e)
    have hx : Row P w h' q.2 q.1 := (rows q mq).stay fun o e => kp' _ o e
    show wpAny _ A.in1 (holding [Value.ref q.1] (setAdd S (.ref q.1)) >>= _) _ _ _
    refine wpAny_bind (wpAny_holding ?_)
    unfold setAdd
    refine wpAny_holding (wpAny_bind (wpAny_pyHash_tuple hu hx ?_))
    refine add_row (s := { s with heap := h', toks := tk + ((q.2.map Leaf.num).length + 1) }) R' lo hx hu (by have := off.len; omega) fun b h2 L2 es2 ep2 t2 but R2 lo2 gr => ?_
    have kp2 : Kept h0 h2 := fun b o e => by
      rw [but.2 b (fun z => by rw [z, hS] at e; cases e)]
      exact kp' b o e
    have st2 := W.frame _ h' h2 st fun b hb o e => by
      rw [but.2 b (fun z => by
        rw [z] at hb
        rcases List.mem_cons.mp hb with z | z
        · exact hSI z
        · exact hSl (List.mem_singleton.mp z))]
      exact e
    refine wpAny_pure ⟨plainId_quiet F.plain_set_update_loop _, ih (done ++ [q]) _ (by rw [ek]; simp) (by rw [List.length_append]; exact st2.1) st2.2 kp2 ⟨L2, es2, ep2, t2, R2, lo2, off.next gr⟩ fun h3 tk3 k3 hs3 => ?_⟩
    exact goal h3 tk3 k3 hs3
end
end Z
end
section
set_option maxHeartbeats 4000000
/-! Sets of rows: the call. -/
namespace Z
open PySem PySem.Spec PyProof.Rows L2
section
variable {P : Program} {w : World} {A : Around} {E : Value → Shared → Prop} {s : Shared}
/-- what set(xs) leaves -/
def MadeSet (P : Program) (w : World) (s : Shared) (ks : List AR) (r : Value) (z : Shared) : Prop := r = .none ∧ ∃ h' tk, z = { s with heap := h', toks := tk } ∧ Kept s.heap h' ∧ HasSet P w h' s.heap.objs.size ks
theorem call_set_rows {l : Addr} {ks : List AR} {Q : Value → Shared → Prop} (calm : A.handled = none) (isl : s.heap.IsList l (ks.map fun q => Value.ref q.1).toArray) (rows : ∀ q, q ∈ ks → Row P w s.heap q.2 q.1) (few : ks.length ≤ 76) (room : A.units + 3 < cLine)
    (q : ∀ h' tk, Kept s.heap h' → HasSet P w h' s.heap.objs.size ks → Q (.ref s.heap.objs.size) { s with heap := h', toks := tk }) : wpAny (model P w) A (call (.type "set") [.ref l]) Q E s := by
  have ⟨cc, tt, fmro⟩ := F.called_set.mro
  have fmade := F.called_set.made; have fsub := F.called_set.sub
  refine wpAny_call (A := A) (codeAny_of_tree (show wpAny _ _ (callAny (.type "set") _) _ _ _ from wpAny_pure ⟨Code.quiet_builtin _ (by decide +kernel), codeAny_builtin F.entry_type_call ?_⟩))
  rw [Around.under_plain (A := A) (weight_type_call_type "set" [.ref l] []) rfl]
  have f1 := F.called_set.notType; have f2 := F.called_set.canCreate; have f3 := F.typeCall_set_1 (.ref l)
  repeat (any_goals (first | assumption | wp_step))
  refine codeAny_mono (code_set_led1 (.ref l) (E := E) (Q₁ := fun v z => v = .ref s.heap.objs.size ∧ z = { s with heap := s.heap.push (newSet w) }) ⟨rfl, rfl⟩) fun r1 z1 g1 => ?_
  cases r1 with
  | error e => exact g1
  | ok fl =>
    cases fl with
    | ret v =>
      obtain ⟨rfl, rfl⟩ := g1
      have at_ : (s.heap.push (newSet w)).get? s.heap.objs.size = some (newSet w) := Heap.get?_push_size _ rfl
      have ty : Shared.TypeIs { s with heap := s.heap.push (newSet w) } (.ref s.heap.objs.size) "set" := ⟨_, at_, rfl⟩
      have f4 := F.called_set.init.lookup; have f5 := F.called_set.init.bind (.ref s.heap.objs.size)
      repeat (any_goals (first | assumption | wp_step))
      refine codeAny_mono (codeAny_call_builtin (R := wants (MadeSet P w s ks) E) F.called_set.init.plain F.entry_set_init (check_set_init_1 ty ?_)) fun r2 z2 g2 => ?_
      · have ⟨ol, at_l, fcl, nl, fdl⟩ := isl
        obtain ⟨c0, d0, x0, k0⟩ := ol
        simp only at fcl fdl
        subst fcl; subst fdl
        have lt_l : l < s.heap.objs.size := Heap.lt_size at_l
        have at_l2 := Heap.get?_push_of_some (newSet w) at_l
        have f6 := F.sub_list_set; have f7 := F.sub_list_frozenset
        have f8 : (Value.type "list" == Value.type "dict") = false := by decide
        have isl2 : (s.heap.push (newSet w)).IsList l (ks.map fun q => Value.ref q.1).toArray := ⟨_, at_l2, rfl, nl, rfl⟩
        unfold Builtin.«set.__init__» noKeywords Builtin.Frozenset.updateFrom
        generalize ei : pyIter = py1
        wp_walk
        subst ei
        refine wpAny_pyIter_list isl2 (wpAny_bind (wpAny_runValue ?_))
        have sz1 : (s.heap.push (newSet w)).objs.size = s.heap.objs.size + 1 := Heap.size_push _ _
        have old : ∀ b, s.heap.objs.size ≤ b → s.heap.get? b = none := fun b hb => by
          cases z : s.heap.get? b with
          | none => rfl
          | some o => exact absurd (Heap.lt_size z) (Nat.not_lt.mpr hb)
        refine fill_rows (P := P) (w := w) (S := s.heap.objs.size) (I := (s.heap.push (newSet w)).objs.size) (l := l) (ks := ks) (by rw [sz1]; exact Nat.ne_of_lt (Nat.lt_succ_self _)) (Nat.ne_of_gt lt_l) (by rw [sz1]; exact Nat.ne_of_lt (Nat.lt_succ_of_lt lt_l)) few (h0 := s.heap) rows (old _ (Nat.le_refl _)) (old _ (by rw [sz1]; exact Nat.le_succ _)) (show A.units + 3 < cLine by omega) (by simp [calm])
          ks [] _ rfl ⟨_, Heap.get?_push_size _ rfl, rfl, rfl⟩ (isl2.push _) (fun b o e => Heap.get?_push_of_some _ (Heap.get?_push_of_some _ e)) (hasSet_new (Heap.get?_push_of_some _ at_)) fun h' tk kp hs => ?_
        refine wpAny_pure ?_
        show wpAny _ _ (ret Value.none) _ _ _
        exact wpAny_pure ⟨rfl, h', tk, rfl, kp, hs⟩
      · cases r2 with
        | error e => exact g2
        | ok fl2 =>
          cases fl2 with
          | ret v2 =>
            obtain ⟨rfl, h', tk, rfl, kp, hs⟩ := g2
            repeat (any_goals (first | assumption | wp_step))
            exact q h' tk kp hs
          | _ => exact g2.elim
    | _ => exact g1.elim
end
end Z
end
section
set_option maxHeartbeats 4000000
/-! Rows (number, number, truth): their order, lists of them without doubles. -/
namespace Z
open PySem PySem.Spec PyProof.Rows L2
abbrev T3 := Int × Int × Bool
def bi (b : Bool) : Int := if b = true then 1 else 0
def enc3 (t : T3) : PyData := .tuple [.int t.1, .int t.2.1, .bool t.2.2]
def leT (t u : T3) : Bool := decide (t.1 < u.1 ∨ (t.1 = u.1 ∧ (t.2.1 < u.2.1 ∨ (t.2.1 = u.2.1 ∧ bi t.2.2 ≤ bi u.2.2))))
theorem leT_iff {t u : T3} : leT t u = true ↔ (t.1 < u.1 ∨ (t.1 = u.1 ∧ (t.2.1 < u.2.1 ∨ (t.2.1 = u.2.1 ∧ bi t.2.2 ≤ bi u.2.2)))) := by
  unfold leT
  rw [decide_eq_true_eq]
theorem enc3_le : PySem.W.dataLe false enc3 = leT := by
  funext t u
  obtain ⟨a, c, b⟩ := t
  obtain ⟨a', c', b'⟩ := u
  show (!PySem.W.dataLt (.tuple [.int a', .int c', .bool b']) (.tuple [.int a, .int c, .bool b])) = _
  have nil : PyProof.Rows.lexLt PyProof.Rows.itemOrd (PySem.W.keyToksAll []) (PySem.W.keyToksAll []) = false := lex_irrefl _
  rw [PySem.W.dataLt_tuple, PySem.W.dataLt_cons (by simp [PySem.W.alike]), PySem.W.dataLt_cons (by simp [PySem.W.alike]), PySem.W.dataLt_cons (by simp [PySem.W.alike]), nil, PySem.W.dataLt_int, PySem.W.dataLt_int, PySem.W.dataLt_bool]
  unfold leT
  simp only [PyData.eqv, beq_iff_eq]
  by_cases h1 : a' = a
  · by_cases h2 : c' = c
    · subst h1; subst h2
      cases b <;> cases b' <;> simp [bi, b2i]
    · subst h1
      have e1 : (c < c' ∨ c = c' ∧ bi b ≤ bi b') ↔ c < c' := by omega
      simp [h2, e1]
      by_cases h3 : c' < c
      · have : ¬ c < c' := by omega
        simp [h3, this]
      · have : c < c' := by omega
        simp [h3, this]
  · have e1 : (a < a' ∨ a = a' ∧ (c < c' ∨ c = c' ∧ bi b ≤ bi b')) ↔ a < a' := by omega
    simp [h1, e1]
    by_cases h3 : a' < a
    · have : ¬ a < a' := by omega
      simp [h3, this]
    · have : a < a' := by omega
      simp [h3, this]
theorem leT_trans (x y z : T3) (h : leT x y = true) (k : leT y z = true) : leT x z = true := by
  rw [leT_iff] at *
  omega
theorem leT_total (x y : T3) : (leT x y || leT y x) = true := by
  rw [Bool.or_eq_true, leT_iff, leT_iff]
  omega
theorem leT_anti {x y : T3} (h : leT x y = true) (k : leT y x = true) : x = y := by
  rw [leT_iff] at *
  obtain ⟨a, c, b⟩ := x
  obtain ⟨a', c', b'⟩ := y
  simp only at h k
  have e1 : a = a' := by omega
  have e2 : c = c' := by omega
  have e3 : bi b = bi b' := by omega
  subst e1; subst e2
  cases b <;> cases b' <;> simp [bi] at e3 ⊢
/-- without doubles -/
def firsts : List T3 → List T3
  | [] => []
  | x :: xs => if x ∈ xs then firsts xs else x :: firsts xs
theorem mem_firsts {x : T3} : ∀ {xs : List T3}, x ∈ firsts xs ↔ x ∈ xs
  | [] => Iff.rfl
  | y :: xs => by
    unfold firsts
    by_cases h : y ∈ xs
    · rw [if_pos h, mem_firsts, List.mem_cons]
      refine ⟨.inr, fun k => ?_⟩
      rcases k with e | k
      · rw [e]; exact h
      · exact k
    · rw [if_neg h, List.mem_cons, List.mem_cons, mem_firsts]
theorem nodup_firsts : ∀ xs : List T3, (firsts xs).Nodup
  | [] => List.nodup_nil
  | y :: xs => by
    unfold firsts
    by_cases h : y ∈ xs
    · rw [if_pos h]; exact nodup_firsts xs
    · rw [if_neg h]
      exact List.nodup_cons.mpr ⟨fun k => h (mem_firsts.mp k), nodup_firsts xs⟩
theorem firsts_len : ∀ xs : List T3, (firsts xs).length ≤ xs.length
  | [] => Nat.le_refl _
  | y :: xs => by
    unfold firsts
    by_cases h : y ∈ xs
    · rw [if_pos h]; exact Nat.le_succ_of_le (firsts_len xs)
    · rw [if_neg h, List.length_cons, List.length_cons]
      exact Nat.succ_le_succ (firsts_len xs)
def sortT (xs : List T3) : List T3 := (firsts xs).mergeSort leT
theorem mem_sortT {x : T3} {xs : List T3} : x ∈ sortT xs ↔ x ∈ xs := by
  unfold sortT
  rw [List.mem_mergeSort, mem_firsts]
theorem sortT_len (xs : List T3) : (sortT xs).length ≤ xs.length := by
  unfold sortT
  rw [List.length_mergeSort]
  exact firsts_len xs
/-- however the rows without doubles stand, sorted they are one list -/
theorem sortT_one {xs ys : List T3} (n : ys.Nodup) (m : ∀ x, x ∈ ys ↔ x ∈ xs) : ys.mergeSort leT = sortT xs := by
  have pm : ys.Perm (firsts xs) := (List.perm_ext_iff_of_nodup n (nodup_firsts xs)).mpr fun x => by rw [m, mem_firsts]
  refine List.Perm.eq_of_pairwise (le := fun x y => leT x y = true) (fun a b _ _ => leT_anti) (List.pairwise_mergeSort leT_trans leT_total _) (List.pairwise_mergeSort leT_trans leT_total _) ?_
  exact (List.mergeSort_perm _ _).trans (pm.trans (List.mergeSort_perm _ _).symm)
/-! ### the keys -/
def key3 (t : T3) : List Int := [t.1, t.2.1, bi t.2.2]
theorem key3_inj {t u : T3} (h : key3 t = key3 u) : t = u := by
  obtain ⟨a, c, b⟩ := t
  obtain ⟨a', c', b'⟩ := u
  unfold key3 at h
  simp only [List.cons.injEq, and_true] at h
  obtain ⟨rfl, rfl, h⟩ := h
  cases b <;> cases b' <;> simp [bi] at h ⊢
theorem perm_lift {α β : Type} {f : α → β} : ∀ {vs us : List β}, vs.Perm us → ∀ l : List α, us = l.map f → ∃ l' : List α, l'.Perm l ∧ vs = l'.map f := by
  intro vs us h
  induction h with
  | nil => intro l e; exact ⟨l, .refl _, e⟩
  | @cons x v u p ih =>
    intro l e
    cases l with
    | nil => cases e
    | cons z l =>
      rw [List.map_cons] at e
      injection e with e1 e2
      obtain ⟨l', p', e'⟩ := ih l e2
      exact ⟨z :: l', p'.cons z, by rw [List.map_cons, ← e1, e']⟩
  | swap x y u =>
    intro l e
    match l, e with
    | z1 :: z2 :: l, e =>
      rw [List.map_cons, List.map_cons] at e
      injection e with e1 e2
      injection e2 with e2 e3
      exact ⟨z2 :: z1 :: l, .swap _ _ _, by rw [List.map_cons, List.map_cons, ← e1, ← e2, e3]⟩
    | [_], e => simp at e
    | [], e => simp at e
  | trans p q ihp ihq =>
    intro l e
    obtain ⟨l', p', e'⟩ := ihq l e
    obtain ⟨l2, p2, e2⟩ := ihp l' e'
    exact ⟨l2, p2.trans p', e2⟩
end Z
end
section
set_option maxHeartbeats 4000000
/-! sorted(set(xs)) of rows (number, number, truth), as a rule. -/
namespace Z
open PySem PySem.Spec PyProof.Rows L2
/-- the set at a, without the rows themselves -/
structure SetRest (P : Program) (w : World) (L : List AR) (es : Array (Int × Value)) (t : SetTable) : Prop where
  held : es.toList = tabRows P w L
  tab : TabOk t (L.map fun q => rH P w q.2)
  once : (L.map Prod.snd).Nodup
  flat : t.plain = true
  leads : w.params.followText "set-order" = true ∨ t.led = true
  cap : L.length ≤ t.mask
def BareSet (P : Program) (w : World) (a : Addr) (L : List AR) (h : Heap) : Prop := ∃ es ep t, (∃ o, h.get? a = some o ∧ o.ExactSet ∧ o.data = .set es ep t) ∧ SetRest P w L es t
def setO (P : Program) (w : World) (a : Addr) (L : List AR) : HO := .ext (BareSet P w a L)
section
variable {P : Program} {w : World} {h : Heap} {a : Addr} {L : List AR}
theorem RS.bare {es : Array (Int × Value)} {ep : Nat} {t : SetTable} (R : RS P w h a L es ep t) : BareSet P w a L h := ⟨es, ep, t, R.obj, R.held, R.tab, R.once, R.flat, R.leads, R.cap⟩
theorem BareSet.full (b : BareSet P w a L h) (rows : ∀ q, q ∈ L → Row P w h q.2 q.1) : ∃ es ep t, RS P w h a L es ep t := by
  obtain ⟨es, ep, t, o, r⟩ := b
  exact ⟨es, ep, t, o, r.held, r.tab, r.once, rows, r.flat, r.leads, r.cap⟩
theorem setO_at {H : Hp} (b : BareSet P w a L h) : ObjOk P w H h a (setO P w a L) := by
  have ⟨es, ep, t, ⟨o, ho, _⟩, _⟩ := b
  refine ⟨b, ⟨o, ho⟩, fun h1 h2 c k => ?_⟩
  have ⟨es1, ep1, t1, ⟨o1, ho1, r1⟩, q1⟩ := c
  exact ⟨es1, ep1, t1, ⟨o1, k o1 ho1, r1⟩, q1⟩
end
section
variable {X : Cx}
def tri (t : T3) : List V := [.int t.1, .int t.2.1, .bl t.2.2]
def un3 : List Int → T3
  | [a, c, b] => (a, c, decide (b = 1))
  | _ => (0, 0, false)
theorem un_key (t : T3) : un3 (key3 t) = t := by
  obtain ⟨a, c, b⟩ := t
  cases b <;> rfl
theorem tri_vals {t : T3} {us : List Value} (r : Vals (tri t) us) : ∃ t1 t2, us = [.int t.1 t1, .int t.2.1 t2, .bool t.2.2] := by
  unfold tri at r
  cases r with
  | cons r1 r =>
    cases r with
    | cons r2 r =>
      cases r with
      | cons r3 r =>
        cases r
        obtain ⟨t1, rfl⟩ := r1
        obtain ⟨t2, rfl⟩ := r2
        cases r3
        exact ⟨t1, t2, rfl⟩
theorem Inv.row {pins : List (Addr × Obj)} {σ : L2.St} {H : Hp} {s : Shared} {b : Addr} {t : T3} (I : Inv X pins σ H s) (h : SqT X.K H b (tri t)) : Row X.prog X.w s.heap (key3 t) b ∧ Reads s.heap (.ref b) (enc3 t) [] := by
  obtain ⟨its, r, ⟨o, ho, hc, n, hd⟩, _⟩ := I.tuple h
  obtain ⟨t1, t2, rfl⟩ := tri_vals r
  refine ⟨⟨o, _, n, ho, hc, hd, ?_⟩, .tuple ho hc hd (.cons (as := []) (.int _ _) (.cons (as := []) (.int _ _) (.cons (as := []) (bs := []) (.bool _) .nil)))⟩
  refine .cons ?_ (.cons ?_ (.cons ?_ .nil))
  · show decide _ = true
    rw [decide_eq_true_eq]
  · show decide _ = true
    rw [decide_eq_true_eq]
  · show decide _ = true
    rw [decide_eq_true_eq]
    rfl
def keyed (ks : List (Addr × T3)) : List AR := ks.map fun q => (q.1, key3 q.2)
/-- set(xs) -/
def rSet3 (K : PySem.W.Frag) (P : Program) (w : World) : List V → Hp → VK → Prop := fun xs H Q => ∃ (l : Addr) (ks : List (Addr × T3)), xs = [V.ref l] ∧ SqL K H l (ks.map fun q => V.ref q.1) ∧ (∀ q, q ∈ ks → SqT K H q.1 (tri q.2)) ∧ ks.length ≤ 76 ∧
  ∀ a L, H a = none → Off (keyed ks) L → (L.map Prod.snd).Nodup → Q (.ref a) (upd H a (setO P w a L))
theorem refs_vals : ∀ {ks : List Addr} {us : List Value}, Vals (ks.map V.ref) us → us = ks.map Value.ref
  | [], _, .nil => rfl
  | q :: ks, _, .cons r z => by
    cases r
    rw [refs_vals z]
    rfl
theorem vals_refs : ∀ (ks : List Addr), Vals (ks.map V.ref) (ks.map Value.ref)
  | [] => .nil
  | q :: ks => .cons rfl (vals_refs ks)
theorem cr_set3 (hc : X.calm = true) (hu : X.A.units + 70 < cLine) : CallR X (.type "set") (rSet3 X.K X.prog X.w) := by
  intro pins s σ H xs us Q I r h
  obtain ⟨l, ks, rfl, hl, hk, few, q⟩ := h
  rw [Vals.ref1 r]
  obtain ⟨its, rv, isl, _⟩ := I.list hl
  have ei : its = (keyed ks).map fun q => Value.ref q.1 := by
    have e : (ks.map fun q => V.ref q.1) = (ks.map Prod.fst).map V.ref := by rw [List.map_map]; rfl
    rw [e] at rv
    rw [refs_vals rv, keyed, List.map_map, List.map_map]
    rfl
  rw [ei] at isl
  refine call_set_rows (ks := keyed ks) (I.ok.hd hc) isl.isList (fun z hz => ?_) (by unfold keyed; rw [List.length_map]; exact few) (by omega) fun h' tk kp ⟨L, es, ep, t, R, lo, off⟩ => ?_
  · obtain ⟨z1, h1, rfl⟩ := List.mem_map.mp hz
    exact (Inv.row I (hk z1 h1)).1
  · exact ⟨.ref s.heap.objs.size, upd H s.heap.objs.size (setO X.prog X.w s.heap.objs.size L), I.laid (t' := tk) kp (Nat.le_refl _) (setO_at R.bare), rfl, q _ L (I.hok.fresh (Nat.le_refl _)) off R.once⟩
/-- sorted(a set of rows) -/
def rSorted3 (K : PySem.W.Frag) (P : Program) (w : World) : List V → Hp → VK → Prop := fun xs H Q => ∃ (a : Addr) (L : List (Addr × T3)), xs = [V.ref a] ∧ H a = some (setO P w a (keyed L)) ∧ (∀ q, q ∈ L → SqT K H q.1 (tri q.2)) ∧ L.length ≤ 76 ∧
  ∀ (L1 L' : List (Addr × T3)) (l : Addr), L1.Perm L → L'.map Prod.snd = (L1.map Prod.snd).mergeSort leT → (∀ q, q ∈ L' → q ∈ L) → (L.map Prod.snd).Nodup → H l = none → Q (.ref l) (upd H l (.lst (L'.map fun q => V.ref q.1)))
theorem each_rows {h : Heap} : ∀ {L : List (Addr × T3)}, (∀ q, q ∈ L → Reads h (.ref q.1) (enc3 q.2) []) → ∀ {c : Addr}, PySem.W.EachIs (fun v t => ∃ as, Reads h v (enc3 t) as ∧ c ∉ as) (L.map fun q => Value.ref q.1) (L.map Prod.snd)
  | [], _, _ => .nil
  | q :: L, k, _ => .cons ⟨[], k q List.mem_cons_self, by simp⟩ (each_rows fun z hz => k z (List.mem_cons_of_mem _ hz))
theorem each_self : ∀ (L : List (Addr × T3)), PySem.W.EachIs (fun v t => ∃ q, q ∈ L ∧ v = Value.ref q.1 ∧ t = q.2) (L.map fun q => Value.ref q.1) (L.map Prod.snd)
  | [] => .nil
  | q :: L => .cons ⟨q, List.mem_cons_self, rfl, rfl⟩ ((each_self L).mono fun v t ⟨z, h1, h2, h3⟩ => ⟨z, List.mem_cons_of_mem _ h1, h2, h3⟩)
theorem each_pick {L : List (Addr × T3)} : ∀ {out : List Value} {ts : List T3}, PySem.W.EachIs (fun v t => ∃ q, q ∈ L ∧ v = Value.ref q.1 ∧ t = q.2) out ts → ∃ L' : List (Addr × T3), out = L'.map (fun q => Value.ref q.1) ∧ L'.map Prod.snd = ts ∧ ∀ q, q ∈ L' → q ∈ L
  | _, _, .nil => ⟨[], rfl, rfl, fun _ z => nomatch z⟩
  | _, _, .cons ⟨q, h1, h2, h3⟩ r => by
    obtain ⟨L', e1, e2, e3⟩ := each_pick r
    refine ⟨q :: L', by rw [List.map_cons, h2, e1], by rw [List.map_cons, h3, e2], fun z hz => ?_⟩
    rcases List.mem_cons.mp hz with e | hz
    · rw [e]; exact h1
    · exact e3 z hz
theorem cr_sorted3 (hc : X.calm = true) (hu : X.A.units + 70 < cLine) : CallR X (.builtin "sorted") (rSorted3 X.K X.prog X.w) := by
  intro pins s σ H xs us Q I r h
  obtain ⟨a, L, rfl, ha, hk, few, q⟩ := h
  rw [Vals.ref1 r]
  have b0 : BareSet X.prog X.w a (keyed L) s.heap := (I.hok a _ ha).1
  obtain ⟨es, ep, t, R⟩ := b0.full fun z hz => by
    obtain ⟨z1, h1, rfl⟩ := List.mem_map.mp hz
    exact (Inv.row I (hk z1 h1)).1
  obtain ⟨o, ho, hex, hd⟩ := R.obj
  have hes : es.toList.map (·.2) = L.map fun q => Value.ref q.1 := by
    rw [R.held]
    unfold tabRows keyed
    rw [List.map_map, List.map_map]
    rfl
  have esz : es.size < scanBound := by
    rw [R.sz]
    unfold scanBound keyed
    rw [List.length_map]
    omega
  refine Calls.call_function_entry kind_sorted plain_sorted entry_sorted (args_sorted1 _) ?_
  unfold Builtin.«sorted»
  refine wpAny_bind (m := checkCount "sorted" 1 1 _) (wpAny_pure (wpAny_bind (collect_set (A := X.A.in1) (I.ok.hd hc) ⟨o, ho, hex.1, hd⟩ R.good esz R.tab.ris R.leads fun s1 vs k1 hz g1 o1 pm => ?_)))
  rw [hes] at pm
  obtain ⟨L1, p1, e1⟩ := perm_lift pm L rfl
  subst e1
  have few1 : L1.length ≤ 76 := by rw [p1.length_eq]; exact few
  refine wpAny_bind (wpAny_newList ?_ (by rw [sizeLine_eq, List.length_map]; omega))
  have at_ : (s1.heap.push (seqObj "list" (L1.map fun q => Value.ref q.1).toArray 0)).get? s1.heap.objs.size = some (seqObj "list" (L1.map fun q => Value.ref q.1).toArray 0) := Heap.get?_push_size _ rfl
  have rd : ∀ q, q ∈ L1 → Reads (s1.heap.push (seqObj "list" (L1.map fun q => Value.ref q.1).toArray 0)) (.ref q.1) (enc3 q.2) [] := fun z hz => PyProof.Rows.Reads.keeps (fun b u e => Heap.get?_push_of_some _ (k1 b u e)) (Inv.row I (hk z (p1.mem_iff.mp hz))).2
  have alike3 : ∀ t u : T3, PySem.W.alike (enc3 t) (enc3 u) = true := fun t u => by simp [enc3, PySem.W.alike, PySem.W.alikeAll]
  refine wpAny_bind (wpAny_holding (PySem.W.list_sort_data (s := { s1 with heap := s1.heap.push (seqObj "list" (L1.map fun q => Value.ref q.1).toArray 0) }) (R := fun v t => ∃ q, q ∈ L1 ∧ v = Value.ref q.1 ∧ t = q.2) (enc := enc3) (bs := L1.map Prod.snd) at_ (each_self L1) (each_rows rd) (PySem.W.AllAlike.of alike3) (PySem.W.Sortable.tuples fun t => ⟨_, _, rfl⟩)
    (by rw [sizeLine_eq, List.length_map]; omega) (fun t _ => ?_) fun out h1 h2 => ?_))
  · have : (enc3 t).depth ≤ 2 := by simp [enc3, PyData.depth, PyData.depthAll]
    have e : X.A.in1.units = X.A.units + 1 := rfl
    omega
  · obtain ⟨c, hc⟩ := sortedHeap_at (vs := L1.map fun q => Value.ref q.1) (out := out.toArray) at_
    obtain ⟨L', e1, e2, e3⟩ := each_pick h2
    subst e1
    have sz : s1.heap.objs.size < (s1.heap.push (seqObj "list" (L1.map fun q => Value.ref q.1).toArray 0)).objs.size := by
      rw [size_push']
      exact Nat.lt_succ_self _
    have few' : L'.length ≤ 76 := by
      rw [List.length_map, List.length_map] at h1
      omega
    have kp : ∀ b u, s.heap.get? b = some u → (sortedHeap (s1.heap.push (seqObj "list" (L1.map fun q => Value.ref q.1).toArray 0)) s1.heap.objs.size (L1.map fun q => Value.ref q.1) (L'.map fun q => Value.ref q.1).toArray).get? b = some u := fun b u e => by
      have lt := Heap.lt_size (k1 b u e)
      rw [sortedHeap_old (Nat.ne_of_lt lt) (by rw [size_push']; exact Nat.lt_succ_of_lt lt)]
      exact Heap.get?_push_of_some _ (k1 b u e)
    have hn : H s1.heap.objs.size = none := I.hok.fresh hz
    have ev : (L'.map fun q => V.ref q.1) = (L'.map Prod.fst).map V.ref := by rw [List.map_map]; rfl
    have ew : (L'.map fun q => Value.ref q.1) = (L'.map Prod.fst).map Value.ref := by rw [List.map_map]; rfl
    refine wpAny_pure ⟨_, rfl, .ref s1.heap.objs.size, upd H s1.heap.objs.size (.lst (L'.map fun q => V.ref q.1)), ?_, rfl, q L1 L' _ p1 (by rw [e2, enc3_le]) (fun z hz => p1.mem_iff.mp (e3 z hz)) ?_ hn⟩
    · refine I.call' (ch := []) o1 (Un.laid kp hz hn) (I.hok.laid kp hz ⟨by rw [List.length_map, sizeLine_eq]; omega, (L'.map Prod.fst).map Value.ref, c, by rw [ev]; exact vals_refs _, by rw [ew] at hc; rw [ew]; exact hc⟩) (by show AllBare s1.gens; rw [g1]; exact I.bare) (fun _ z => nomatch z)
    · have n1 := R.once
      unfold keyed at n1
      rw [List.map_map] at n1
      refine nodup_of_map (f := key3) ?_
      rw [List.map_map]
      exact n1
end
end Z
end
section
set_option maxHeartbeats 4000000
/-! sorted(set(xs)) of rows, of data. -/
namespace Z
open PySem PySem.Spec PyProof.Rows L2
def t3D (t : T3) : D := .tuple [.int t.1, .int t.2.1, .bool t.2.2]
def t3sD : List D → Option (List T3)
  | [] => some []
  | .tuple [.int a, .int c, .bool b] :: ds => (t3sD ds).map ((a, c, b) :: ·)
  | _ => none
theorem t3sD_eq : ∀ {ds : List D} {ts : List T3}, t3sD ds = some ts → ds = ts.map t3D
  | [], ts, e => by
    rw [t3sD] at e
    cases e
    rfl
  | d :: ds, ts, e => by
    unfold t3sD at e
    split at e
    · rename_i h; cases h
    · rename_i a c b ds' h
      injection h with h1 h2
      subst h1; subst h2
      obtain ⟨ts', h1, rfl⟩ := Option.map_eq_some_iff.mp e
      rw [t3sD_eq h1, List.map_cons]
      rfl
    · cases e
theorem t3sD_of : ∀ ts : List T3, t3sD (ts.map t3D) = some ts
  | [] => rfl
  | t :: ts => by
    rw [List.map_cons, t3D, t3sD, t3sD_of ts]
    rfl
/-- sorted(set(xs)) -/
def gSortSet (a : D) : M D := match a with
  | .list ds => match t3sD ds with
    | some ts => if ts.length ≤ 76 then pure (.list ((sortT ts).map t3D)) else no
    | none => no
  | _ => no
section
variable {X : Cx} {T : Tb} {E : XKs}
theorem rp_tri {K : PySem.W.Frag} {mg : Str → Option Value} {O : List Addr} {G : Hp} {v : V} {t : T3} (r : Rp K mg O G v (t3D t)) : ∃ a, v = .ref a ∧ SqT K G a (tri t) := by
  cases r with
  | tup h rs =>
    refine ⟨_, rfl, ?_⟩
    cases rs with
    | cons r1 rs =>
      cases rs with
      | cons r2 rs =>
        cases rs with
        | cons r3 rs =>
          cases rs; cases r1; cases r2; cases r3
          exact h
theorem rps_tri {K : PySem.W.Frag} {mg : Str → Option Value} {O : List Addr} {G : Hp} : ∀ {ts : List T3} {vs : List V}, Rps K mg O G vs (ts.map t3D) → ∃ ks : List (Addr × T3), vs = ks.map (fun q => V.ref q.1) ∧ ks.map Prod.snd = ts ∧ ∀ q, q ∈ ks → SqT K G q.1 (tri q.2)
  | [], _, .nil => ⟨[], rfl, rfl, fun _ z => nomatch z⟩
  | t :: ts, _, .cons r rs => by
    obtain ⟨a, rfl, h⟩ := rp_tri r
    obtain ⟨ks, e1, e2, e3⟩ := rps_tri rs
    refine ⟨(a, t) :: ks, by rw [List.map_cons, e1], by rw [List.map_cons, e2], fun q hq => ?_⟩
    rcases List.mem_cons.mp hq with e | hq
    · rw [e]; exact h
    · exact e3 q hq
theorem tri_rps {K : PySem.W.Frag} {mg : Str → Option Value} {O : List Addr} {G : Hp} : ∀ {ks : List (Addr × T3)}, (∀ q, q ∈ ks → SqT K G q.1 (tri q.2)) → Rps K mg O G (ks.map fun q => V.ref q.1) ((ks.map Prod.snd).map t3D)
  | [], _ => .nil
  | q :: ks, h => .cons (.tup (h q List.mem_cons_self) (.cons (.int _) (.cons (.int _) (.cons (.bl _) .nil)))) (tri_rps fun z hz => h z (List.mem_cons_of_mem _ hz))
def rSortSet (K : PySem.W.Frag) (P : Program) (w : World) : List V → Hp → VK → Prop := fun xs H Q => rSet3 K P w xs H fun v H1 => rSorted3 K P w [v] H1 Q
theorem Same.sqT {K : PySem.W.Frag} {H H' : Hp} {a : Addr} {xs : List V} (k : ∀ b o, H b = some o → H' b = some o) (h : SqT K H a xs) : SqT K H' a xs := Same.seqT k h
theorem d_sortSet : CallD X T (rSortSet X.K X.prog X.w) (c1 gSortSet) := cd1 fun O H S x a Q E so sa q => by
  unfold gSortSet at q
  split at q
  · rename_i ds
    cases hts : t3sD ds with
    | none =>
      rw [hts] at q
      exact q.elim
    | some ts =>
      rw [hts] at q
      dsimp only at q
      by_cases few : ts.length ≤ 76
      · rw [if_pos few] at q
        obtain ⟨p, vs, rfl, h1, t⟩ := sa.list
        rw [t3sD_eq hts] at t
        obtain ⟨ks, e1, e2, e3⟩ := rps_tri t
        subst e1
        have few2 : ks.length ≤ 76 := by
          rw [← e2, List.length_map] at few
          exact few
        refine ⟨p, ks, rfl, .inl (.inl h1), fun z hz => Same.sqT same_hide (e3 z hz), few2, fun a L ha off once => ?_⟩
        obtain ⟨L3, hL3, hsub⟩ : ∃ L3 : List (Addr × T3), L = keyed L3 ∧ ∀ z, z ∈ L3 → z ∈ ks := by
          have : ∀ L : List AR, (∀ z, z ∈ L → z ∈ keyed ks) → ∃ L3 : List (Addr × T3), L = keyed L3 ∧ ∀ z, z ∈ L3 → z ∈ ks := by
            intro L
            induction L with
            | nil => intro _; exact ⟨[], rfl, fun _ z => nomatch z⟩
            | cons z L ih =>
              intro h
              obtain ⟨L3, e, k⟩ := ih fun y hy => h y (List.mem_cons_of_mem _ hy)
              obtain ⟨z3, hz3, ez⟩ := List.mem_map.mp (h z List.mem_cons_self)
              refine ⟨z3 :: L3, by rw [e, ← ez]; rfl, fun y hy => ?_⟩
              rcases List.mem_cons.mp hy with e | hy
              · rw [e]; exact hz3
              · exact k y hy
          exact this L off.sub
        subst hL3
        have mem : ∀ u : T3, u ∈ L3.map Prod.snd ↔ u ∈ ts := fun u => by
          constructor
          · intro hu
            obtain ⟨z, hz, rfl⟩ := List.mem_map.mp hu
            rw [← e2]
            exact List.mem_map.mpr ⟨z, hsub z hz, rfl⟩
          · intro hu
            rw [← e2] at hu
            obtain ⟨z, hz, rfl⟩ := List.mem_map.mp hu
            have := off.all (z.1, key3 z.2) (List.mem_map.mpr ⟨z, hz, rfl⟩)
            unfold keyed at this
            rw [List.map_map] at this
            obtain ⟨y, hy, ey⟩ := List.mem_map.mp this
            exact List.mem_map.mpr ⟨y, hy, key3_inj ey⟩
        have few3 : L3.length ≤ 76 := by
          have := off.len
          unfold keyed at this
          rw [List.length_map, List.length_map] at this
          omega
        refine ⟨a, L3, rfl, upd_same, fun z hz => Same.sqT (same_upd ha) (Same.sqT same_hide (e3 z (hsub z hz))), few3, fun L1 L' l pm ord sub nd hl => ?_⟩
        have es : L'.map Prod.snd = sortT ts := by
          rw [ord]
          refine sortT_one ((pm.map Prod.snd).nodup_iff.mpr nd) fun u => ?_
          rw [(pm.map Prod.snd).mem_iff]
          exact mem u
        refine q O _ (.ref l) ((Le.new ha).trans (Le.new hl)) ((so.new ha).new hl) (.lst (hide_of ((so.new ha).ne hl) upd_same) ?_)
        rw [← es]
        refine tri_rps fun z hz => ?_
        have lee : Same (hide O H) (hide O (upd (upd H a (setO X.prog X.w a (keyed L3))) l (.lst (L'.map fun q => V.ref q.1)))) := ((Le.new ha).trans (Le.new hl)).same
        exact Same.seqT lee (e3 z (hsub z (sub z hz)))
      · rw [if_neg few] at q
        exact q.elim
  · exact q.elim
theorem de_sortSet {ea : Expr} {fs : BA} {p1 p2 q1 q2 : Pos} (hc : X.calm = true) (hu : X.A.units + 70 < cLine) (ha : DA X T E [ea] fs) (m1 : X.mg "sorted" = none) (m2 : X.mg "set" = none) (g1 : Gl X "sorted" := by rfl) (g2 : Gl X "set" := by rfl)
    (k1 : starEach [ea] X.env = (false, eval ea X.env) :: starEach [] X.env := by rfl) (k2 : (backTo q2 (starEach [] X.env)).any (·.1) = false := by rfl) (k3 : (backTo q1 (starEach [] X.env)).any (·.1) = false := by rfl) :
    DE X T E (.Call (.Name "sorted" p1) [.Call (.Name "set" p2) [ea] [] q2] [] q1) (eCB (c1 gSortSet) fs) :=
  ⟨(pe_callB (cr_sorted3 hc hu) g1 m1 (by decide +kernel) (pa_cons (pe_callTy (cr_set3 hc hu) g2 m2 (by decide +kernel) ha.pa (by decide) (by decide) k1 k2) pa_nil) (by decide) (by decide) (by rfl) k3).monoZ fun σ H Q ⟨env, S, O, re, so, q⟩ =>
    ⟨env, S, O, re, so, Po.bind q fun as S1 O1 H1 xs l s1 r1 q1 => by
      have := d_sortSet (X := X) (T := T) O1 H1 S1 xs as Q _ s1 r1 q1
      exact this⟩⟩
end
end Z
end
section
set_option maxHeartbeats 4000000
/-! sorted(xs, key=lambda x: (len(x), x)) of tuples of ints; list(range(n)). -/
namespace Z
open PySem PySem.Spec PyProof.Rows L2
open LamX NdefX
section
variable {X : Cx} {pins : List (Addr × Obj)} {σ : L2.St} {H : Hp} {s : Shared}
/-- what such a lambda is made of -/
def lenBody (y : Str) (x1 : Nat) (p1 p2 p3 p4 p5 : Pos) : Expr := .Tuple [.Call (.Name "len" p1) [.Name y p2] [] p3, .Name y p4] x1 p5
/-- its body, where y is a tuple: all that was there stays -/
theorem len_body {E : Value → Shared → Prop} {y : Str} {t : Addr} {its : Array Value} {x1 : Nat} {p1 p2 p3 p4 p5 : Pos} {Q : Value → Shared → Prop} (I : Inv X pins σ H s) (hN : X.N[0]? = some y) (hσ : σ[0]? = some (some (.ref t))) (hv : Vis X.env.scope y) (hd : (y == ("__debug__" : Str)) = false)
    (hdc : (y == ("__classdict__" : Str)) = false) (hg : Gl X "len") (hm : X.mg "len" = none) (it : IsTup s.heap t its) (hz : (its.size : Int) < 2 ^ 63)
    (n1 : starEach [.Call (.Name "len" p1) [.Name y p2] [] p3, .Name y p4] X.env = (false, eval (.Call (.Name "len" p1) [.Name y p2] [] p3) X.env) :: (false, eval (.Name y p4) X.env) :: [])
    (n2 : starEach [.Name y p2] X.env = (false, eval (.Name y p2) X.env) :: starEach [] X.env) (n3 : (backTo p3 (starEach [] X.env)).any (·.1) = false)
    (q : ∀ t0 tk, Q (.ref s.heap.objs.size) { s with heap := s.heap.push { cls := .type "tuple", data := .seq #[.int its.size t0, .ref t] }, toks := tk }) :
    wpAny (model X.prog X.w) X.A (eval (lenBody y x1 p1 p2 p3 p4 p5) X.env) Q E s := by
  have look : ∀ {pos : Pos} {tk : Nat} {Q : Value → Shared → Prop}, Q (.ref t) { s with toks := tk } → wpAny (model X.prog X.w) X.A (eval (.Name y pos) X.env) Q E { s with toks := tk } := fun {pos tk Q} z => by
    obtain ⟨m, hn, hl⟩ := I.loc
    obtain ⟨u, r, l⟩ := hl 0 y _ hN hσ hv
    obtain rfl : u = Value.ref t := r
    rcases l with ⟨hk, hmm⟩ | ⟨hk, c, hc, hcell⟩
    · exact wpAny_Name (wpAny_loadName_local (s := { s with toks := tk }) I.ok.kind hk hn hmm z) hd
    · rcases hk with hk | hk
      · exact wpAny_Name (wpAny_loadName_cell (s := { s with toks := tk }) I.ok.kind hk hc hcell z) hd
      · exact wpAny_Name (wpAny_loadName_free (s := { s with toks := tk }) I.ok.kind hk hc hcell z hdc) hd
  refine wpAny_Tuple_spliced ?_
  rw [n1]
  show wpAny _ _ (spliced ((false, _) :: _)) _ _ _
  refine Calls.spliced_cons (wpAny_Call_Name_kw (ld_blt (u := .builtin "len") I hg hm (by decide +kernel) ?_))
  refine PyProof.Rows.callWith_builtin1 ?_ n2 n3
  rw [n2]
  show wpAny _ _ (spliced ((false, _) :: _)) _ _ _
  refine Calls.spliced_cons (look (tk := s.toks) (Calls.spliced_nil ?_))
  refine len_tuple it hz ?_
  refine Calls.spliced_cons (look (Calls.spliced_nil ⟨?_, q _ _⟩))
  rw [sizeLine_eq]
  exact (by decide : 2 ≤ 16777216)
/-- a lambda that binds one parameter and nothing else -/
theorem len_turn {A : Around} {outer : List Env} {y : Str} {cl : List (Str × Addr)} {q : Str} {params : Arguments} {scope : Scope} {pm ctv : Value} {f c' t : Addr} {x1 : Nat} {p1 p2 p3 p4 p5 : Pos} {k : Nat} {P : Program} {w : World} {K : PySem.W.Frag} {mg : Str → Option Value} {base : Heap} {E : XK} {its : Array Value} {d : PyData}
    (hr : Room k A) (e0 : Env0 P w K mg base A outer s H) (hf : s.heap.get? f = some (PySem.W.kla_obj "<lambda>" q params (lenBody y x1 p1 p2 p3 p4 p5) scope cl pm c' ctv)) (C1 : CellsAt cl [] [] s.heap H) (hc1 : H c' = some (CodeO c' q)) (Sn : NScope [y] [y] [] scope)
    (hbind : ∀ us : List Value, us.length = 1 → bindArgs (PySem.W.kla_fn "<lambda>" q params (lenBody y x1 p1 p2 p3 p4 p5) scope cl pm (.ref c') ctv) ⟨us, []⟩ = pure ([y].zip us)) (hm : mg "len" = none)
    (hv : Vis scope y) (hd : (y == ("__debug__" : Str)) = false) (hdc : (y == ("__classdict__" : Str)) = false)
    (hg : Gl (ncx (L2N.CX P w) P w K mg base [y] ⟨"<lambda>", q, params, [], scope, cl, c'⟩ f A outer s H E) "len")
    (n1 : ∀ env : Env, starEach [.Call (.Name "len" p1) [.Name y p2] [] p3, .Name y p4] env = (false, eval (.Call (.Name "len" p1) [.Name y p2] [] p3) env) :: (false, eval (.Name y p4) env) :: [])
    (n2 : ∀ env : Env, starEach [.Name y p2] env = (false, eval (.Name y p2) env) :: starEach [] env) (n3 : ∀ env : Env, (backTo p3 (starEach [] env)).any (·.1) = false)
    (it : IsTup s.heap t its) (hz : (its.size : Int) < 2 ^ 63) (rd : Reads s.heap (.ref t) d []) (E' : Value → Shared → Prop) :
    wpAny (model P w) A (call (.ref f) [.ref t]) (PySem.W.KeyPure (.tuple [.int its.size, d]) s) E' s := by
  refine wpAny_call ?_
  obtain ⟨⟨oc, vs0, t1, hoc, hdc1, hvc⟩, _, _⟩ := e0.hok c' _ hc1
  have lim : s.heap.NoLimit := e0.mod.nolimit.keeps fun b o e => (e0.bs b o e).1
  refine PySem.W.kla_callFunE hr.depth hf rfl Sn.co Sn.gen rfl ⟨c', oc, vs0, t1, rfl, hoc, hdc1, hvc⟩ ?_
  rw [hbind [.ref t] rfl]
  refine wpAny_pure (wpAny_newFunctionEnv Sn.nocell (fun ⟨n, _⟩ hy => Sn.par n (List.of_mem_zip hy).1) (fun h₁ hns hsb => ⟨lim.fresh _ hsb, ?_⟩) Sn.kind)
  have kp : ∀ b o, s.heap.get? b = some o → h₁.get? b = some o := fun b o e => hsb.extBut b o (Nat.ne_of_lt (Heap.lt_size e)) (Heap.get?_push_of_some _ e)
  have J : L2.Inv (ncx (L2N.CX P w) P w K mg base [y] ⟨"<lambda>", q, params, [], scope, cl, c'⟩ f A outer s H E) [] (startF [y] [.ref t] []) H { s with heap := h₁, toks := s.toks + ([y].zip [Value.ref t]).length } :=
    inv_startN (F := ⟨"<lambda>", q, params, [], scope, cl, c'⟩) Sn hr.hd e0 rfl (.cons rfl .nil) C1 hns kp
  obtain ⟨ot, ho, h2⟩ := it
  refine PySem.W.kla_codeExpr (len_body (its := its) J rfl rfl hv hd hdc hg hm ⟨ot, kp _ _ ho, h2⟩ hz (n1 _) (n2 _) (n3 _) fun t0 tk => ?_)
  refine ⟨_, _, rfl, fun b o e => Heap.get?_push_of_some _ (kp b o e), .tuple (Heap.get?_push_size _ rfl) rfl rfl (.cons (as := []) (.int _ _) (.cons (as := []) (bs := []) ?_ .nil))⟩
  exact PyProof.Rows.Reads.keeps (fun b o e => Heap.get?_push_of_some _ (kp b o e)) rd
end
end Z
end
section
set_option maxHeartbeats 4000000
/-! sorted(xs, key=lambda x: (len(x), x)) of tuples of ints, as a rule of data. -/
namespace Z
open PySem PySem.Spec PyProof.Rows L2 LamX NdefX
def tupI (t : List Int) : D := .tuple (t.map .int)
def tsD : List D → Option (List (List Int))
  | [] => some []
  | .tuple xs :: ds => (intsD xs).bind fun t => (tsD ds).map (t :: ·)
  | _ => none
theorem intsD_eq : ∀ {ds : List D} {ns : List Int}, intsD ds = some ns → ds = ns.map .int
  | [], ns, e => by
    rw [intsD] at e
    cases e
    rfl
  | d :: ds, ns, e => by
    unfold intsD at e
    split at e
    · rename_i h; cases h
    · rename_i b ds' h
      injection h with h1 h2
      subst h1; subst h2
      obtain ⟨ns', h1, rfl⟩ := Option.map_eq_some_iff.mp e
      rw [intsD_eq h1, List.map_cons]
    · cases e
theorem tsD_eq : ∀ {ds : List D} {ts : List (List Int)}, tsD ds = some ts → ds = ts.map tupI
  | [], ts, e => by
    rw [tsD] at e
    cases e
    rfl
  | d :: ds, ts, e => by
    unfold tsD at e
    split at e
    · rename_i h; cases h
    · rename_i xs ds' h
      injection h with h1 h2
      subst h1; subst h2
      obtain ⟨t, h1, e⟩ := Option.bind_eq_some_iff.mp e
      obtain ⟨ts', h2, rfl⟩ := Option.map_eq_some_iff.mp e
      rw [tsD_eq h2, intsD_eq h1, List.map_cons]
      rfl
    · cases e
theorem intsD_of : ∀ ns : List Int, intsD (ns.map .int) = some ns
  | [] => rfl
  | n :: ns => by
    rw [List.map_cons, intsD, intsD_of ns]
    rfl
theorem tsD_of : ∀ ts : List (List Int), tsD (ts.map tupI) = some ts
  | [] => rfl
  | t :: ts => by
    rw [List.map_cons, tupI, tsD, intsD_of t, tsD_of ts]
    rfl
def lenK (t : List Int) : PyData := .tuple [.int t.length, .tuple (t.map .int)]
def leLen (t u : List Int) : Bool := !(if ((u.length : Int)) = (t.length : Int) then PySem.W.listLt u t else decide ((u.length : Int) < (t.length : Int)))
theorem lenK_le : PySem.W.dataLe false lenK = leLen := by
  funext t u
  show (!PySem.W.dataLt (lenK u) (lenK t)) = _
  have h := PySem.W.DatumOrd.lt_eq (α := Int × PySem.W.Tup Int) ((u.length : Int), ⟨u⟩) ((t.length : Int), ⟨t⟩)
  have e : PySem.W.dataLt (lenK u) (lenK t) = PySem.W.DatumOrd.lt (α := Int × PySem.W.Tup Int) ((u.length : Int), ⟨u⟩) ((t.length : Int), ⟨t⟩) := h
  rw [e]
  rfl
def sortL (ts : List (List Int)) : List (List Int) := ts.mergeSort leLen
def gSortLen (a : D) : M D := match a with
  | .list ds => match tsD ds with
    | some ts => if ts.length ≤ 1000 then pure (.list ((sortL ts).map tupI)) else no
    | none => no
  | _ => no
section
variable {X : Cx} {T : Tb} {E : XKs} {k : Nat}
theorem ints_reads {h : Heap} : ∀ {t : List Int} {us : List Value}, Vals (t.map V.int) us → ReadsAll h us (t.map .int) []
  | [], _, .nil => .nil
  | n :: t, _, .cons r q => by
    obtain ⟨t0, rfl⟩ := r
    exact .cons (as := []) (bs := []) (.int _ _) (ints_reads q)
def RT (K : PySem.W.Frag) (mg : Str → Option Value) (O : List Addr) (G : Hp) (v : Value) (t : List Int) : Prop := ∃ x, RelV x v ∧ Rp K mg O G x (tupI t)
theorem each_ts {K : PySem.W.Frag} {mg : Str → Option Value} {O : List Addr} {G : Hp} : ∀ {ts : List (List Int)} {xs : List V} {us : List Value}, Vals xs us → Rps K mg O G xs (ts.map tupI) → PySem.W.EachIs (RT K mg O G) us ts
  | [], _, _, .nil, .nil => .nil
  | t :: ts, _, _, .cons r rr, .cons q qq => .cons ⟨_, r, q⟩ (each_ts rr qq)
theorem ts_each {K : PySem.W.Frag} {mg : Str → Option Value} {O : List Addr} {G : Hp} : ∀ {ts : List (List Int)} {us : List Value}, PySem.W.EachIs (RT K mg O G) us ts → ∃ xs, Vals xs us ∧ Rps K mg O G xs (ts.map tupI)
  | _, _, .nil => ⟨[], .nil, .nil⟩
  | _, _, .cons ⟨x, r, q⟩ t => by
    obtain ⟨xs, h1, h2⟩ := ts_each t
    exact ⟨x :: xs, .cons r h1, .cons q h2⟩
theorem lenK_depth (t : List Int) : (lenK t).depth ≤ 2 := by
  unfold lenK
  simp only [PyData.depth, PyData.depthAll, PySem.W.depth_ints]
  omega
theorem lenK_alike (t u : List Int) : PySem.W.alike (lenK t) (lenK u) = true := by
  unfold lenK
  rw [PySem.W.alike, PySem.W.alikeAll, PySem.W.alikeAll]
  simp [PySem.W.alike, PySem.W.alikeAll, PySem.W.alike_ints]
theorem de_sortLen {y : Str} {params : Arguments} {scope : Scope} {x1 : Nat} {p p1 p2 p3 p4 p5 lpos kpos pos : Pos} {ea : Expr} {fs : BA} {cc Pt : Addr} (c : Cok X E (k + 1)) (ha : DA X T E [ea] fs) (TB : TabB X.base X.mg cc Pt) (hcode : X.env.code = .ref cc) (hmT : (Pt, X.env.qual ++ "<lambda>") ∈ T.tabs) (hu : ∀ p ∈ T.tabs, p.1 = Pt → p.2 = X.env.qual ++ "<lambda>")
    (Sn : NScope [y] [y] [] scope) (hfree : ∀ z ∈ scope.names, z.2 = .free → X.env.scope.names.lookup z.1 = some .cell ∨ X.env.scope.names.lookup z.1 = some .free)
    (hbind : ∀ (q : Str) (cl : List (Str × Addr)) (pm cv ctv : Value) (us : List Value), us.length = 1 → bindArgs (PySem.W.kla_fn "<lambda>" q params (lenBody y x1 p1 p2 p3 p4 p5) scope cl pm cv ctv) ⟨us, []⟩ = pure ([y].zip us))
    (m1 : X.mg "sorted" = none) (m2 : X.mg "len" = none) (hv : Vis scope y) (hg : ∀ (q : Str) (cl : List (Str × Addr)) (f c' : Addr) (A : Around) (outer : List Env) (s : Shared) (H : Hp) (E : XK), Gl (ncx (L2N.CX X.prog X.w) X.prog X.w X.K X.mg X.base [y] ⟨"<lambda>", q, params, [], scope, cl, c'⟩ f A outer s H E) "len")
    (hd : (y == ("__debug__" : Str)) = false := by decide) (hdc : (y == ("__classdict__" : Str)) = false := by decide)
    (n1 : ∀ env : Env, starEach [.Call (.Name "len" p1) [.Name y p2] [] p3, .Name y p4] env = (false, eval (.Call (.Name "len" p1) [.Name y p2] [] p3) env) :: (false, eval (.Name y p4) env) :: [] := by intro _; rfl)
    (n2 : ∀ env : Env, starEach [.Name y p2] env = (false, eval (.Name y p2) env) :: starEach [] env := by intro _; rfl) (n3 : ∀ env : Env, (backTo p3 (starEach [] env)).any (·.1) = false := by intro _; rfl)
    (hdef : defaultsOf params X.env = ([], []) := by rfl) (g1 : Gl X "sorted" := by rfl)
    (k1 : backTo pos (starEach [ea] X.env) = (false, eval ea X.env) :: backTo pos (starEach [] X.env) := by rfl) (k2 : (backTo pos (starEach [ea] X.env)).any (·.1) = false := by rfl) :
    DE X T E (.Call (.Name "sorted" p) [ea] [⟨some (Str.ofString "key"), .Lambda params (lenBody y x1 p1 p2 p3 p4 p5) scope lpos, kpos⟩] pos) (eCB (c1 gSortLen) fs) := by
  refine ⟨⟨fun pins s σ H Q I h => ?_⟩⟩
  obtain ⟨env, S, O, re, so, q⟩ := h
  refine wpAny_Call_Name_kw (ld_blt (u := .builtin "sorted") I g1 m1 (by decide +kernel) ?_)
  refine PyProof.Rows.callWith_kw (thn (ha.pa.run pos pins s σ H (fun vs H1 => ∃ as S1 O1, Rps X.K X.mg O1.cs (hide O1 H1) vs as ∧ SOk X.K X.mg T O1 H1 S1 ∧ Po X.K X.mg T (Rp X.K X.mg) ((c1 gSortLen as) S1) O1 H1 Q (E σ)) I ⟨env, S, O, re, so, Po.bind q fun as S1 O1 H1 xs l s1 r1 q1 => ⟨as, S1, O1, r1, s1, q1⟩⟩) fun us s1 ⟨vs, H1, I1, rv, as, S1, O1, rs, so1, q1⟩ => ?_) k1 k2
  match as, rs, q1 with
  | [], _, q1 => exact q1.elim
  | _ :: _ :: _, _, q1 => exact q1.elim
  | [a], .cons ra .nil, q1 =>
    obtain ⟨a', sa, q2⟩ := rd_po so1 ra q1
    unfold gSortLen at q2
    split at q2
    · rename_i ds
      cases hts : tsD ds with
      | none => rw [hts] at q2; exact q2.elim
      | some ts =>
        rw [hts] at q2
        dsimp only at q2
        by_cases few : ts.length ≤ 1000
        · rw [if_pos few] at q2
          obtain ⟨l, xs, rfl, hl, rt⟩ := sa.list
          rw [tsD_eq hts] at rt
          have hcf : ∀ z ∈ scope.names, z.2 = .free → ∃ c, X.env.cells.lookup z.1 = some c := fun z hz e => (hfree z hz e).elim (fun u => I.ok.has _ (.inl u)) fun u => I.ok.has _ (.inr u)
          show wpAny _ _ (evalAll ((do let v ← eval (.Lambda params (lenBody y x1 p1 p2 p3 p4 p5) scope lpos) X.env; standAt pos; pure v) :: [])) _ _ s1
          refine wpAny_evalAll_cons (wpAny_bind (lam_make2 I1 TB hcode hmT hu so1.tabs hdef hcf fun f c' pm ctv H2 s2 I2 eN T2 hf hfn hfr hco => wpAny_bind (wpAny_standAt (wpAny_pure (wpAny_evalAll_nil ?_)))))
          have so2 : SOk X.K X.mg T O1 H2 S1 := sok_ext so1 eN T2
          have l2 : Le O1 H1 O1 H2 := Le.ext eN
          have rt2 := rt.le l2
          have hl2 : H2 l = some (.lst xs) := eN _ _ hl (fun ps z => nomatch z)
          obtain ⟨its, rv2, isl, hz2⟩ := I2.list (.inl (.inl hl2))
          rw [Vals.ref1 rv]
          refine PySem.W.sorted_key_data (kw := [(Str.ofString "key", .ref f)]) (b := false) (R := RT X.K X.mg O1.cs (hide O1 H2)) (bs := ts) lenK isl.isList (each_ts rv2 rt2) (PySem.W.AllAlike.of lenK_alike) (PySem.W.Sortable.tuples fun t => ⟨_, _, rfl⟩) (by rw [sizeLine_eq]; omega) (fun t _ => ?_) (PyProof.Rows.ksk_s1 _ _) (fun _ => PyProof.Rows.ksk_l1 _ _) (fun _ => PyProof.Rows.ksk_t1 _ _) (fun v t hR ht h tk kp => ?_) fun out c0 h' tk kp fresh hat hlen hE => ?_
          · have := lenK_depth t
            have := c.hu70
            omega
          · obtain ⟨x, r1, r2⟩ := hR
            cases r2 with
            | tup hs rs =>
              rename_i b zs
              obtain rfl : v = Value.ref b := r1
              have ez := intsD_rp rs (intsD_of t)
              subst ez
              have I3 : L2.Inv X pins σ H2 { s2 with heap := h, gens := s2.gens, drawn := s2.drawn, toks := tk } := I2.call (ch := []) (Un.kept kp) (I2.hok.kept kp) I2.bare (fun _ z => nomatch z)
              obtain ⟨its2, rv3, it, hz3⟩ := I3.tuple (Same.sqT same_hide hs)
              have e := I3.env0
              have rm : Room 0 X.A.in1.in1 := ⟨c.room.hd, by have := c.room.dp; show X.A.depth + 3 * 0 + 5 < recursionLimit; omega, by have := c.room.un; show X.A.units + 2 + 16 * 0 + 200 < cLine; omega⟩
              have C1 := cells_of I3 (Caps.made (fr := []) (js := []) I3.ok hfree (fun y hy => by cases hy) rfl)
              have hlen3 : its2.toArray.size = t.length := by
                rw [List.size_toArray, ← rv3.length, List.length_map]
              have hz4 : t.length ≤ sizeLine := by
                rw [List.length_map] at hz3
                exact hz3
              rw [sizeLine_eq] at hz4
              have rd : Reads h (.ref b) (.tuple (t.map .int)) [] := by
                obtain ⟨o, ho, hc, n, hd⟩ := it
                exact .tuple ho hc hd (by simpa using ints_reads rv3)
              have tn := len_turn (s := { s2 with heap := h, gens := s2.gens, drawn := s2.drawn, toks := tk }) (H := H2) (A := X.A.in1.in1) (outer := X.stack) (E := fun _ _ _ => False) rm ⟨e.frames, e.mod, e.bs, e.bsz, e.funs, e.frf, e.hok, e.bare⟩ (kp _ _ hf) C1 hco Sn (hbind _ _ _ _ _) m2 hv hd hdc (hg _ _ _ _ _ _ _ _ _) n1 n2 n3 it (by rw [hlen3]; omega) rd (fun _ _ => False)
              rw [hlen3] at tn
              exact tn
          · obtain ⟨ys, h1, h2⟩ := ts_each hE
            have hn : H2 (s2.heap.objs.size + 1) = none := I2.hok.fresh (Nat.le_succ _)
            have hl3 : ys.length ≤ sizeLine := by rw [h1.length, hlen, sizeLine_eq]; omega
            refine ⟨.ref _, upd H2 (s2.heap.objs.size + 1) (.lst ys), I2.laid (t' := tk) kp (Nat.le_succ _) ⟨hl3, out, c0, h1, hat⟩, rfl, ?_⟩
            rw [lenK_le] at h2
            exact q2 O1 _ _ (l2.trans (Le.new hn)) (so2.new hn) (.lst (hide_of (so2.ne hn) upd_same) (h2.le (Le.new hn)))
        · rw [if_neg few] at q2
          exact q2.elim
    · exact q2.elim
end
end Z
end
section
set_option maxHeartbeats 4000000
/-! sorted of at most one; list(range(n)). -/
namespace Z
open PySem PySem.Spec PyProof.Rows L2
section
variable {X : Cx} {T : Tb} {E : XKs}
theorem perm_one {α : Type} {l m : List α} (p : l.Perm m) (h : m.length ≤ 1) : l = m := by
  match m, h, p with
  | [], _, p => exact p.eq_nil
  | [x], _, p => exact List.perm_singleton.mp p
/-- sorted(xs), xs of at most one item -/
def rSort1 (K : PySem.W.Frag) : List V → Hp → VK → Prop := fun vs H Q => ∃ (a : Addr) (xs : List V), vs = [V.ref a] ∧ SqL K H a xs ∧ xs.length ≤ 1 ∧ ∀ l, H l = none → Q (.ref l) (upd H l (.lst xs))
theorem cr_sort1 : CallR X (.builtin "sorted") (rSort1 X.K) := by
  intro pins s σ H vs us Q I r h
  obtain ⟨a, xs, rfl, hs, one, q⟩ := h
  obtain ⟨its, rv, hl, hz⟩ := I.list hs
  rw [Vals.ref1 r]
  have l1 : its.length ≤ 1 := by rw [← rv.length]; exact one
  refine PySem.W.sorted_of_sort hl.isList (by rw [sizeLine_eq]; omega) (args_sorted1 _) (fun _ => args_list_sort _) fun E' => ?_
  refine SK.plain_sort (r := fun _ => 0) (s := { s with heap := PySem.W.copyHeap s.heap its }) (PySem.W.copyHeap_at s.heap its) (by omega) (fun h2 => absurd h2 (by omega)) fun ps out e1 e2 _ => ⟨rfl, ?_⟩
  have e3 : out.toList.Perm its := by
    rw [e1]
    have z := e2.map Prod.snd
    rw [List.map_snd_zip (Nat.le_refl _)] at z
    exact z
  have e5 : out = its.toArray := by
    rw [← perm_one e3 l1, Array.toArray_toList]
  obtain ⟨c, hc⟩ := sortedAll_at s.heap its out
  have hc2 := hc.trans (congrArg (fun o => some (seqObj "list" o c)) e5)
  have hn : H (s.heap.objs.size + 1) = none := I.hok.fresh (Nat.le_succ _)
  exact ⟨.ref _, upd H (s.heap.objs.size + 1) (.lst xs), I.laid (t' := s.toks) (fun b u e => PyProof.Rows.sortedAll_old e) (Nat.le_succ _) ⟨hz, its, c, rv, hc2⟩, rfl, q _ hn⟩
def gSortD1 (a : D) : M D := match a with
  | .list ds => if ds.length ≤ 1 then pure (.list ds) else if okSort ds = true then pure (.list (sortD ds)) else no
  | _ => no
def rSort01 (K : PySem.W.Frag) (mg : Str → Option Value) : List V → Hp → VK → Prop := fun vs H Q => rSort1 K vs H Q ∨ rSortD K mg vs H Q
theorem cr_sort01 (hu : X.A.units + 70 < cLine) : CallR X (.builtin "sorted") (rSort01 X.K X.mg) := fun pins s σ H vs us Q I r h => h.elim (fun z => cr_sort1 pins s σ H vs us Q I r z) fun z => cr_sortedDt hu pins s σ H vs us Q I r z
theorem d_sort01 : CallD X T (rSort01 X.K X.mg) (c1 gSortD1) := cd1 fun O H S x a Q E so sa q => by
  unfold gSortD1 at q
  split at q
  · rename_i ds
    obtain ⟨p, vs, rfl, h1, t⟩ := sa.list
    by_cases one : ds.length ≤ 1
    · rw [if_pos one] at q
      exact .inl ⟨p, vs, rfl, .inl (.inl h1), by rw [t.length]; exact one, fun l hl => new_lst so t q l hl⟩
    · rw [if_neg one] at q
      by_cases hk : okSort ds = true
      · rw [if_pos hk] at q
        exact .inr ⟨p, vs, _, O.cs, hide O H, rfl, .inl (.inl h1), same_hide, t, hk, fun ys l ry hl => new_lst so ry q l hl⟩
      · rw [if_neg hk] at q
        exact q.elim
  · exact q.elim
/-- list(range(n)) -/
def gRangeL (a : D) : M D := match a with
  | .int n => if 0 ≤ n ∧ n ≤ 1000000 then pure (.list ((List.range n.toNat).map fun i : Nat => .int (i : Int))) else no
  | _ => no
def eRgL (f : BE) : BE := fun env => f env >>= gRangeL
theorem rg_rps {K : PySem.W.Frag} {mg : Str → Option Value} {O : List Addr} {G : Hp} (n : Int) : Rps K mg O G (rgV 0 n) ((List.range n.toNat).map fun i : Nat => D.int (i : Int)) := by
  unfold rgV
  rw [Int.sub_zero]
  generalize List.range n.toNat = l
  induction l with
  | nil => exact .nil
  | cons i l ih =>
    rw [List.map_cons, List.map_cons, Int.zero_add]
    exact .cons (.int _) ih
theorem de_listRg {ea : Expr} {fs : BE} {p1 p2 q1 q2 : Pos} (hc : X.calm = true) (ha : DE X T E ea fs) (m1 : X.mg "list" = none) (m2 : X.mg "range" = none) (g1 : Gl X "list" := by rfl) (g2 : Gl X "range" := by rfl)
    (k1 : starEach [ea] X.env = (false, eval ea X.env) :: starEach [] X.env := by rfl) (k2 : starEach [.Call (.Name "range" p2) [ea] [] q2] X.env = (false, eval (.Call (.Name "range" p2) [ea] [] q2) X.env) :: starEach [] X.env := by rfl) :
    DE X T E (.Call (.Name "list" p1) [.Call (.Name "range" p2) [ea] [] q2] [] q1) (eRgL fs) :=
  ⟨(pe_listRg hc g1 m1 (prg_1 g2 m2 ha.pe k1) k2).monoZ fun σ H Q ⟨env, S, O, re, so, q⟩ => ⟨env, S, O, re, so, Po.bind q fun a S1 O1 H1 x l s1 r1 q1 => by
    unfold gRangeL at q1
    split at q1
    · rename_i n
      by_cases hn : 0 ≤ n ∧ n ≤ 1000000
      · rw [if_pos hn] at q1
        cases r1
        exact ⟨n, rfl, RgOk.of_le (by omega) (by omega) (by omega) (by omega), fun p hp => new_lst s1 (rg_rps n) q1 p hp⟩
      · rw [if_neg hn] at q1
        exact q1.elim
    · exact q1.elim⟩⟩
end
end Z
end
section
set_option maxHeartbeats 4000000
/-! Texts: str(n), int(text), signs walked, slices, repeated texts, f-strings. -/
namespace Z
open PySem PySem.Spec PyProof.Rows L2
section
variable {X : Cx} {T : Tb} {E : XKs}
/-- str(n) -/
def gStrI (a : D) : M D := match a with
  | .int i => if i.natAbs.log2 < 1920 then pure (.str (toString i)) else no
  | _ => no
theorem d_strI : CallD X T (fun xs H Q => ∃ i, xs = [.int i] ∧ i.natAbs.log2 < 1920 ∧ Q (.str (toString i)) H) (c1 gStrI) := cd1 fun O H S x a Q E so sa q => by
  unfold gStrI at q
  split at q
  · rename_i i
    by_cases h : i.natAbs.log2 < 1920
    · rw [if_pos h] at q
      exact ⟨i, by rw [sa.int], h, q O H _ Le.refl so (.str _)⟩
    · rw [if_neg h] at q
      exact q.elim
  · exact q.elim
/-- int(text) -/
def gIntS (a : D) : M D := match a with
  | .str x => if x.length ≤ 640 then ofO ((PySem.intText? x).map .int) else no
  | _ => no
theorem Seen.str1 {K : PySem.W.Frag} {mg : Str → Option Value} {O : Ow} {H : Hp} {v : V} {x : Str} (h : Seen K mg O H v (.str x)) : v = .str x := by
  cases h with
  | of r _ => cases r; rfl
theorem d_intS : CallD X T (fun xs H Q => ∃ a n, xs = [.str a] ∧ PySem.intText? a = some n ∧ a.length ≤ 640 ∧ Q (.int n) H) (c1 gIntS) := cd1 fun O H S x a Q E so sa q => by
  unfold gIntS at q
  split at q
  · rename_i y
    by_cases h : y.length ≤ 640
    · rw [if_pos h] at q
      obtain ⟨d, h1, q1⟩ := po_ofO q
      obtain ⟨n, h2, rfl⟩ := Option.map_eq_some_iff.mp h1
      exact ⟨y, n, by rw [sa.str1], h2, h, q1 O H _ Le.refl so (.int _)⟩
    · rw [if_neg h] at q
      exact q.elim
  · exact q.elim
/-! ### a text walked -/
def charsD (x : Str) : List D := x.cps.toList.map fun c => .str ⟨#[c]⟩
theorem dlv_txt {K : PySem.W.Frag} {mg : Str → Option Value} {O : Ow} {H : Hp} {x : Str} : Dlv K mg T (L2.Its x) ⟨charsD x, fun _ => true⟩ O H := by
  refine ⟨fun _ _ => True, trivial, fun _ _ _ _ h _ => h, fun i O H S _ so _ => ⟨fun d hd => ?_, fun hl => ?_⟩⟩
  · unfold charsD at hd
    rw [List.getElem?_map] at hd
    obtain ⟨c, hc, e⟩ := Option.map_eq_some_iff.mp hd
    have hi : i < x.cps.size := by
      have := (List.getElem?_eq_some_iff.mp hc).1
      rwa [Array.length_toList] at this
    subst e
    refine ⟨hi, fun y H' hy => ?_⟩
    obtain ⟨rfl, c', hc', rfl⟩ := hy
    rw [Array.getElem?_toList] at hc
    rw [hc] at hc'
    cases hc'
    exact ⟨Le.refl, so, .str _⟩
  · show x.cps.size ≤ i
    simpa [charsD] using hl
def toTxt (d : D) : M Its := match d with
  | .str x => pure ⟨charsD x, fun _ => true⟩
  | _ => no
def iTxt (f : BE) : BI := fun env => f env >>= toTxt
theorem di_txt {tg e : Expr} {f : BE} (he : DE X T E e f) : DI X T E tg e (iTxt f) :=
  ⟨(pi_str he.pe).monoZ fun σ H Q ⟨env, S, O, re, so, q⟩ => ⟨env, S, O, re, so, PoI.bind q fun d S1 O1 H1 x l s1 r1 q1 => by
    unfold toTxt at q1
    split at q1
    · cases r1
      exact ⟨_, rfl, q1 O1 H1 _ Le.refl s1 dlv_txt⟩
    · exact q1.elim⟩⟩
/-! ### slices of texts -/
def gSlS (a : D) (lo hi : Option Int) : M D := match a with
  | .str z => if z.length ≤ 1000000 then pure (.str (cutS z lo hi)) else no
  | _ => no
def eSlS (f : BE) (lo hi : BO) : BE := fun env => f env >>= fun a => lo env >>= fun l => hi env >>= fun h => gSlS a l h
theorem de_slS {e : Expr} {lo hi : Option Expr} {f : BE} {l h : BO} {p2 pos : Pos} (he : DE X T E e f) (hl : DO X T E lo l) (hh : DO X T E hi h) : DE X T E (.Subscript e (.Slice lo hi none p2) pos) (eSlS f l h) :=
  ⟨(pe_slice sl_str he.pe hl.po hh.po).monoZ fun σ H Q ⟨env, S, O, re, so, q⟩ => ⟨env, S, O, re, so, Po.bind q fun a S1 O1 H1 x l1 s1 r1 q1 =>
    ⟨env, S1, O1, re.mono l1, s1, Po.bind q1 fun lo S2 O2 H2 y l2 s2 r2 q2 =>
      ⟨env, S2, O2, re.mono (l1.trans l2), s2, Po.bind q2 fun hi S3 O3 H3 z l3 s3 r3 q3 => by
        cases r2
        cases r3
        unfold gSlS at q3
        split at q3
        · rename_i w
          by_cases hz : w.length ≤ 1000000
          · rw [if_pos hz] at q3
            cases r1
            exact ⟨w, rfl, small_len hz, q3 O3 H3 _ Le.refl s3 (.str _)⟩
          · rw [if_neg hz] at q3
            exact q3.elim
        · exact q3.elim⟩⟩⟩⟩
/-! ### a text n times -/
def repS (x : Str) (n : Nat) : Str := ⟨(List.replicate n x.cps).foldl (· ++ ·) #[]⟩
theorem repS_len (x : Str) (n : Nat) : (repS x n).length = n * x.length := by
  have : ∀ (n : Nat) (a : Array Nat), ((List.replicate n x.cps).foldl (· ++ ·) a).size = a.size + n * x.cps.size := by
    intro n
    induction n with
    | zero => intro a; simp
    | succ n ih =>
      intro a
      rw [List.replicate_succ, List.foldl_cons, ih, Array.size_append, Nat.succ_mul]
      omega
  show ((List.replicate n x.cps).foldl (· ++ ·) #[]).size = n * x.cps.size
  rw [this]
  simp
theorem op_mulStr : OpR X (binaryOp .Mult) (fun x y H Q => ∃ (z : Str) (n : Int), x = .str z ∧ y = .int n ∧ 2 ≤ n ∧ n ≤ 1000 ∧ 1 ≤ z.length ∧ z.length ≤ 1000 ∧ Q (.str (repS z n.toNat)) H) := by
  intro pins s σ H x y v u Q I rx ry h
  obtain ⟨z, n, rfl, rfl, h1, h2, h3, h4, q⟩ := h
  obtain ⟨t, rfl⟩ := rx
  obtain ⟨t', rfl⟩ := ry
  have hlen : z.length * n.toNat ≤ 1000000 := Nat.le_trans (Nat.mul_le_mul h4 (show n.toNat ≤ 1000 by omega)) (by decide)
  refine P.mul_str (by
    rw [decide_eq_false (show ¬ n < -(2 ^ 63 : Int) by omega), decide_eq_false (show ¬ n ≥ 2 ^ 63 by omega)]; rfl) (fun _ _ => ?_) (fun _ _ => ?_) ?_
  · have : (2 ^ 63 - 1 : Int) / n ≥ 1000 := by
      refine Int.le_ediv_of_mul_le (by omega) ?_
      have : (1000 : Int) * n ≤ 1000 * 1000 := by omega
      omega
    omega
  · unfold Builtin.Str.tooLong
    rw [decide_eq_false_iff_not, sizeLine_eq]
    omega
  · rw [if_neg (show ¬ n < 1 by omega), if_neg (by
      have e1 : (n == 1) = false := by rw [beq_eq_false_iff_ne]; omega
      have e2 : (z.length == 0) = false := by rw [beq_eq_false_iff_ne]; omega
      rw [e1, e2]; decide)]
    refine ⟨?_, ?_⟩
    · have := repS_len z n.toNat
      unfold repS at this
      rw [this, sizeLine_eq, Nat.mul_comm]
      omega
    · exact ⟨.str _, H, I.tok _, ⟨_, rfl⟩, q⟩
end
end Z
end
section
set_option maxHeartbeats 4000000
/-! f-strings; xs[:0:-1]. -/
namespace Z
open PySem PySem.Spec PyProof.Rows L2
section
variable {X : Cx} {T : Tb} {E : XKs}
def gFmt (a : D) : M D := match a with
  | .str y => if y.length ≤ 1000000 then pure (.str y) else no
  | .int i => if i.natAbs.log2 < 1920 then pure (.str (toString i)) else no
  | _ => no
def eFmt (f : BE) : BE := fun env => f env >>= gFmt
theorem de_fmt {e : Expr} {f : BE} {pos : Pos} (he : DE X T E e f) : DE X T E (.FormattedValue e (-1) none pos) (eFmt f) :=
  ⟨(pe_fmt he.pe).monoZ fun σ H Q ⟨env, S, O, re, so, q⟩ => ⟨env, S, O, re, so, Po.bind q fun a S1 O1 H1 x l s1 r1 q1 => by
    unfold gFmt at q1
    split at q1
    · rename_i y
      by_cases h : y.length ≤ 1000000
      · rw [if_pos h] at q1
        cases r1
        exact .inl ⟨y, rfl, small_len h, q1 O1 H1 _ Le.refl s1 (.str _)⟩
      · rw [if_neg h] at q1
        exact q1.elim
    · rename_i i
      by_cases h : i.natAbs.log2 < 1920
      · rw [if_pos h] at q1
        cases r1
        exact .inr ⟨i, rfl, h, q1 O1 H1 _ Le.refl s1 (.str _)⟩
      · rw [if_neg h] at q1
        exact q1.elim
    · exact q1.elim⟩⟩
inductive DJ (X : Cx) (T : Tb) (E : XKs) : List Expr → List BE → Prop where
  | nil : DJ X T E [] []
  | cons {e : Expr} {f : BE} {es : List Expr} {fs : List BE} (h : DE X T E e f) (r : DJ X T E es fs) : DJ X T E (e :: es) (f :: fs)
theorem DJ.pj {es : List Expr} {fs : List BE} (h : DJ X T E es fs) : PJ X es (fs.map (tD X.K X.mg T E)) := by
  induction h with
  | nil => exact .nil
  | cons h r ih => exact .cons h.pe ih
theorem bd_assoc {α β γ : Type} (m : M α) (f : α → M β) (g : β → M γ) : ((m >>= f) >>= g) = (m >>= fun a => f a >>= g) := by
  funext S
  rw [bd_ap, bd_ap, bd_ap]
  cases m S <;> rfl
def jnS (acc : Str) (a : D) : M Str := match a with
  | .str y => if (acc ++ y).length ≤ 1000000 then pure (acc ++ y) else no
  | _ => no
def jnM : List BE → Str → Ev → M Str
  | [], acc, _ => pure acc
  | f :: fs, acc, env => f env >>= fun a => jnS acc a >>= fun s => jnM fs s env
def eJoined (fs : List BE) : BE := fun env => jnM fs Str.empty env >>= fun s => pure (.str s)
theorem jn_run : ∀ (fs : List BE) (acc : Str) (env : Ev) (S : Store) (O : Ow) (σ : L2.St) (H : Hp) (Q : VK), REnv X.K X.mg O.cs (hide O H) σ env → SOk X.K X.mg T O H S → Po X.K X.mg T (Rp X.K X.mg) ((jnM fs acc env >>= fun s => pure (D.str s)) S) O H Q (E σ) →
    tJs (fs.map (tD X.K X.mg T E)) acc σ H fun out H1 => Q (.str out) H1
  | [], acc, env, S, O, σ, H, Q, re, so, q => q O H _ Le.refl so (.str _)
  | f :: fs, acc, env, S, O, σ, H, Q, re, so, q => by
    have q' : Po X.K X.mg T (Rp X.K X.mg) ((f env >>= fun a => (jnS acc a >>= fun s => jnM fs s env >>= fun s => pure (D.str s))) S) O H Q (E σ) := by
      have e : (jnM (f :: fs) acc env >>= fun s => pure (D.str s)) = (f env >>= fun a => (jnS acc a >>= fun s => jnM fs s env >>= fun s => pure (D.str s))) := by
        show ((f env >>= fun a => jnS acc a >>= fun s => jnM fs s env) >>= fun s => pure (D.str s)) = _
        simp only [bd_assoc]
      rw [← e]
      exact q
    refine ⟨env, S, O, re, so, Po.bind q' fun a S1 O1 H1 x l s1 r1 q1 => ?_⟩
    unfold jnS at q1
    split at q1
    · rename_i y
      by_cases h : (acc ++ y).length ≤ 1000000
      · rw [if_pos h] at q1
        cases r1
        refine ⟨y, rfl, small_len h, jn_run fs (acc ++ y) env S1 O1 σ H1 Q (re.mono l) s1 ?_⟩
        exact q1
      · rw [if_neg h] at q1
        exact q1.elim
    · exact q1.elim
theorem de_joined {v1 v2 : Expr} {es : List Expr} {fs : List BE} {pos : Pos} (h : DJ X T E (v1 :: v2 :: es) fs) : DE X T E (.JoinedStr (v1 :: v2 :: es) pos) (eJoined fs) :=
  ⟨(pe_joined h.pj).monoZ fun σ H Q ⟨env, S, O, re, so, q⟩ => jn_run fs Str.empty env S O σ H Q re so q⟩
/-! ### xs[:0:-1] -/
theorem fm_congr {α β : Type} {f g : α → Option β} : ∀ {l : List α}, (∀ x ∈ l, f x = g x) → l.filterMap f = l.filterMap g
  | [], _ => rfl
  | x :: l, h => by
    rw [List.filterMap_cons, List.filterMap_cons, h x (by simp), fm_congr fun y hy => h y (by simp [hy])]
theorem down_to_one {α : Type} (l : List α) : ((List.range (l.length - 1)).map fun k => l.length - 1 - k).filterMap (fun i => l[i]?) = (l.drop 1).reverse := by
  have e1 : ((List.range (l.length - 1)).map fun k => l.length - 1 - k) = ((List.range (l.length - 1)).map (· + 1)).reverse := by
    rw [← List.map_reverse, ← PySem.W.krv_range, List.map_map]
    refine List.map_congr_left fun k hk => ?_
    have := List.mem_range.mp hk
    show l.length - 1 - k = l.length - 1 - 1 - k + 1
    omega
  rw [e1, List.filterMap_reverse, List.filterMap_map]
  congr 1
  have e2 := all_picks (l.drop 1)
  rw [List.length_drop] at e2
  rw [← e2]
  refine fm_congr fun k _ => ?_
  show l[k + 1]? = (List.drop 1 l)[k]?
  rw [List.getElem?_drop, Nat.add_comm]
theorem pick_down (its : List Value) : slicePick its.toArray none (some 0) (some (-1)) = ((its.drop 1).reverse).toArray := by
  have b : sliceBounds none (some 0) (some (-1)) its.length = ((its.length : Int) - 1, max (-1) (min 0 ((its.length : Int) - 1)), -1) := rfl
  unfold slicePick
  rw [List.size_toArray, b]
  have e : sliceRange ((its.length : Int) - 1) (max (-1) (min 0 ((its.length : Int) - 1))) (-1) = (List.range (its.length - 1)).map fun k => its.length - 1 - k := by
    unfold sliceRange
    have h1 : ¬ ((-1 : Int) > 0) := by decide
    by_cases c : (its.length : Int) - 1 > max (-1) (min 0 ((its.length : Int) - 1))
    · have e0 : ((its.length : Int) - 1 - max (-1) (min 0 ((its.length : Int) - 1)) - -1 - 1) / (- -1) = ((its.length - 1 : Nat) : Int) := by
        rw [show (- -1 : Int) = 1 by decide, Int.ediv_one]
        omega
      simp only [h1, if_false, c, if_true, e0, Int.toNat_natCast]
      refine List.map_congr_left fun k hk => ?_
      have := List.mem_range.mp hk
      omega
    · have e0 : its.length - 1 = 0 := by omega
      simp only [h1, if_false, c, e0]
      rfl
  rw [e]
  congr 1
  have := down_to_one its
  rw [← this]
  refine fm_congr fun i _ => ?_
  simp
def tDown (K : PySem.W.Frag) (te : TE) : TE := fun σ H Q => te σ H fun x H1 => ∃ a xs, x = .ref a ∧ SqL K H1 a xs ∧ ∀ p, H1 p = none → Q (.ref p) (upd H1 p (.lst (xs.drop 1).reverse))
theorem vals_drop : ∀ {xs : List V} {us : List Value} (n : Nat), Vals xs us → Vals (xs.drop n) (us.drop n)
  | _, _, 0, h => h
  | _, _, n + 1, .nil => .nil
  | _, _, n + 1, .cons r t => vals_drop n t
theorem pe_down {e : Expr} {te : TE} {k0 k1 : Nat} {p0 p1 p2 p3 pos : Pos} (he : PE X e te) : PE X (.Subscript e (.Slice none (some (.Constant (.int 0) k0 p0)) (some (.UnaryOp .USub (.Constant (.int 1) k1 p1) p2)) p3) pos) (tDown X.K te) := by
  refine ⟨fun pins s σ H Q I h => Subscript_ (thn (he.run pins s σ H _ I h) fun v s1 ⟨x, H1, I1, r1, q1⟩ => ?_)⟩
  obtain ⟨a, xs, rfl, hx, q⟩ := q1
  obtain rfl : v = Value.ref a := r1
  have up : PO X (some (.Constant (.int 0) k0 p0)) (tPart (tC (.int 0))) := po_some pe_int
  have st : PO X (some (.UnaryOp .USub (.Constant (.int 1) k1 p1) p2)) (tPart (tUn (rU fun i => .int (-i)) (tC (.int 1)))) := po_some (pe_un un_neg pe_int)
  refine wpAny_Slice (thn (po_none.run pins s1 σ H1 (fun o H2 => o = none ∧ H2 = H1) I1 ⟨rfl, rfl⟩) fun w1 s2 ⟨l, H2, I2, b1, z1, y1⟩ => thn (up.run pins s2 σ H2 (fun o H3 => o = some 0 ∧ H3 = H2) I2 ⟨0, rfl, rfl, rfl⟩) fun w2 s3 ⟨u, H3, I3, b2, z2, y2⟩ =>
    thn (st.run pins s3 σ H3 (fun o H4 => o = some (-1) ∧ H4 = H3) I3 ⟨1, rfl, -1, rfl, rfl, rfl⟩) fun w3 s4 ⟨o, H4, I4, b3, z3, y3⟩ => ?_)
  subst z1 z2 z3 y1 y2 y3
  have J : Inv X pins σ H4 { s4 with heap := s4.heap.push { cls := .type "slice", data := .fields #[w1, w2, w3] } } := I4.kept (t' := s4.toks) fun _ _ z => Heap.get?_push_of_some _ z
  obtain ⟨its, r, ht, hz⟩ := J.list hx
  have ln := r.length
  refine tail_any (ops := [.ref a, .ref s4.heap.objs.size]) ht.isList.typeIs (PySem.slot_list_getitem.lookup) ?_ (by with_unfolding_all rfl)
  refine wpAny_getItem_list_slice ht.isList (Heap.IsSliceOf.new _ w1 w2 w3) b1 b2 b3 (by decide) ?_ (by rw [List.size_toArray, ← ln]; exact hz)
  rw [pick_down]
  exact ⟨.ref _, _, J.laid (t' := s4.toks) (o := .lst (xs.drop 1).reverse) (fun _ _ z => Heap.get?_push_of_some _ z) (Nat.le_refl _) ⟨by rw [List.length_reverse, List.length_drop]; omega, _, 0, (vals_drop 1 r).reverse, Heap.get?_push_size _ rfl⟩, rfl, q _ (J.hok.fresh (Nat.le_refl _))⟩
def gDown (a : D) : M D := match a with
  | .list ds => pure (.list (ds.drop 1).reverse)
  | _ => no
theorem rps_drop {K : PySem.W.Frag} {mg : Str → Option Value} {O : List Addr} {G : Hp} : ∀ {ds : List D} {xs : List V} (n : Nat), Rps K mg O G xs ds → Rps K mg O G (xs.drop n) (ds.drop n)
  | _, _, 0, h => h
  | _, _, n + 1, .nil => .nil
  | _, _, n + 1, .cons r t => rps_drop n t
theorem rps_rev {K : PySem.W.Frag} {mg : Str → Option Value} {O : List Addr} {G : Hp} : ∀ {ds : List D} {xs : List V}, Rps K mg O G xs ds → Rps K mg O G xs.reverse ds.reverse
  | _, _, .nil => .nil
  | _, _, .cons r t => by
    rw [List.reverse_cons, List.reverse_cons]
    exact (rps_rev t).app (.cons r .nil)
theorem de_down {e : Expr} {f : BE} {k0 k1 : Nat} {p0 p1 p2 p3 pos : Pos} (he : DE X T E e f) : DE X T E (.Subscript e (.Slice none (some (.Constant (.int 0) k0 p0)) (some (.UnaryOp .USub (.Constant (.int 1) k1 p1) p2)) p3) pos) (e1 (g1 gDown) f) :=
  ⟨(pe_down he.pe).monoZ fun σ H Q ⟨env, S, O, re, so, q⟩ => ⟨env, S, O, re, so, Po.bind q fun a S1 O1 H1 x l s1 r1 q1 => by
    obtain ⟨a', sa, q2⟩ := rd_po s1 r1 q1
    unfold gDown at q2
    split at q2
    · obtain ⟨p, vs, rfl, h1, t⟩ := sa.list
      exact ⟨p, vs, rfl, .inl (.inl h1), new_lst s1 (rps_rev (rps_drop 1 t)) q2⟩
    · exact q2.elim⟩⟩
end
end Z
end
section
set_option maxHeartbeats 4000000
/-! texts n times. -/
namespace Z
open PySem PySem.Spec PyProof.Rows L2
section
variable {X : Cx} {T : Tb} {E : XKs}
def gMulStr (a b : D) : M D := match a, b with
  | .str z, .int n => if 2 ≤ n ∧ n ≤ 1000 ∧ 1 ≤ z.length ∧ z.length ≤ 1000 then pure (.str (repS z n.toNat)) else no
  | _, _ => no
theorem s_mulStr : OpS X T (fun x y H Q => ∃ (z : Str) (n : Int), x = .str z ∧ y = .int n ∧ 2 ≤ n ∧ n ≤ 1000 ∧ 1 ≤ z.length ∧ z.length ≤ 1000 ∧ Q (.str (repS z n.toNat)) H) gMulStr := fun O H S x y a b Q E so sa sb q => by
  unfold gMulStr at q
  split at q
  · rename_i z n
    by_cases h : 2 ≤ n ∧ n ≤ 1000 ∧ 1 ≤ z.length ∧ z.length ≤ 1000
    · rw [if_pos h] at q
      exact ⟨z, n, sa.str1, sb.int, h.1, h.2.1, h.2.2.1, h.2.2.2, q O H _ Le.refl so (.str _)⟩
    · rw [if_neg h] at q
      exact q.elim
  · exact q.elim
end
end Z
end
section
set_option maxHeartbeats 4000000
namespace Z
open PySem PySem.Spec PyProof.Rows L2
abbrev mainBody : List Stmt := PySem.Challenge.pw_anyaim_k15_texts_of_halls.main.body
def top (i : Nat) : Stmt := PySem.Challenge.pw_anyaim_k15_texts_of_halls.main.body.getD i (.Pass ⟨0, 0, 0, 0⟩)
/-- bounds of loops -/
def fu0 (_ : List D) : Nat := 0
def fu2 : List D → Nat
  | [_, .int b] => b.natAbs + 2
  | _ => 0
def fu3 (_ : List D) : Nat := 1000000
structure GF (K : PySem.W.Frag) (mg : Str → Option Value) : Prop where
  z_ValueError : mg "ValueError" = none
  z_all : mg "all" = none
  z_bool : mg "bool" = none
  z_int : mg "int" = none
  z_isinstance : mg "isinstance" = none
  z_len : mg "len" = none
  z_list : mg "list" = none
  z_max : mg "max" = none
  z_min : mg "min" = none
  z_range : mg "range" = none
  z_sorted : mg "sorted" = none
  z_str : mg "str" = none
  z_tuple : mg "tuple" = none
  z_zip : mg "zip" = none
  x_InvalidHall : Ex K mg "InvalidHall"
  x_InvalidRay : Ex K mg "InvalidRay"
  x_InvalidWord : Ex K mg "InvalidWord"
  x_InvalidWall : Ex K mg "InvalidWall"
  x_InvalidPaper : Ex K mg "InvalidPaper"
  x_InvalidFacts : Ex K mg "InvalidFacts"
  x_InvalidDeed : Ex K mg "InvalidDeed"
  x_InvalidText : Ex K mg "InvalidText"
  x_Unlike : Ex K mg "Unlike"
  x_NothingToUndo : Ex K mg "NothingToUndo"
  c_AimError : ∃ B, mg "AimError" = some (.ref B)
  ec : Errs K mg ["InvalidHall", "InvalidRay", "InvalidWord", "InvalidWall", "InvalidPaper", "InvalidFacts", "InvalidDeed", "InvalidText", "Unlike", "NothingToUndo"]
  f__law_cell : DefOk K mg "_law_cell" (top 24) ["_law_script", "_law_k"]
  f__law_draws : DefOk K mg "_law_draws" (top 25) ["_law_script", "_law_k", "_law_many", "_law_base"]
  f__law_bag : DefOk K mg "_law_bag" (top 26) ["_law_script", "_law_k"]
  f__law_take : DefOk K mg "_law_take" (top 27) ["_law_bag_here", "_law_many"]
  f__law_choice : DefOk K mg "_law_choice" (top 28) ["_law_bag_here", "_law_some"]
  f__law_hall : DefOk K mg "_law_hall" (top 29) ["_law_bag_here", "_law_most"]
  f__law_text : DefOk K mg "_law_text" (top 32) ["_law_hall_so"]
  f__law_bent : DefOk K mg "_law_bent" (top 35) ["_law_bag_here", "_law_text_here"]
  f_is_row : DefOk K mg "is_row" (top 14) ["value", "low", "high"]
  f_is_whole : DefOk K mg "is_whole" (top 13) ["value", "low", "high"]
  f_is_wall : DefOk K mg "is_wall" (top 15) ["high", "end", "value"]
  f_is_hall : DefOk K mg "is_hall" (top 16) ["value"]
  f__law_integer : DefOk K mg "_law_integer" (top 33) ["_law_word"]
  f__law_read : DefOk K mg "_law_read" (top 34) ["_law_text_here"]
  f__law_named_error : DefOk K mg "_law_named_error" (top 30) ["_law_e"]
  f__law_told : DefOk K mg "_law_told" (top 31) ["_law_call"]
  f_as_text : DefOk K mg "as_text" (top 19) ["hall"]
  f_number_in : DefOk K mg "number_in" (top 21) ["word"]
  f_read_hall : DefOk K mg "read_hall" (top 22) ["value"]
  f_need_hall : DefOk K mg "need_hall" (top 17) ["hall"]
  f_hall_text : DefOk K mg "hall_text" (top 20) ["hall"]
  f_law : DefOk K mg "law" (top 36) ["_law_script"]
section
variable {P : Program} {w : World} {K : PySem.W.Frag} {mg : Str → Option Value} {base : Heap} {T : Tb}
def N__law_cell : List Str := ["_law_script", "_law_k"]
theorem S__law_cell : FnScope N__law_cell ["_law_script", "_law_k"] (defScope (top 24)) := C8.fnScope_by (by decide +kernel)
def b__law_cell (i : Nat) : BS := (sSeq (sIf (tB1 (e2 (g2 gLt) (eVar 1) (eCB (c1 gLen) (aCons (eVar 0) aNil)))) (sSeq (sRet (e2 (g2 gIx) (eVar 0) (eVar 1))) sNil) sNil) (sSeq (sIf (tB1 (e2 (g2 gEq) (eCB (c1 gLen) (aCons (eVar 0) aNil)) (eC (.int 0)))) (sSeq (sRet (e2 (g2 gAdd) (e2 (g2 gMul) (eC (.int 7919)) (eVar 1)) (eC (.int 101)))) sNil) sNil) (sSeq (sRet (e2 (g2 gAdd) (e2 (g2 gMod) (e2 (g2 gIx) (eVar 0) (e2 (g2 gMod) (eVar 1) (eCB (c1 gLen) (aCons (eVar 0) aNil)))) (eC (.int 1000003))) (e2 (g2 gMul) (eC (.int 7919)) (eVar 1)))) sNil)))
def r__law_cell : List D → M D := fun ds => fnOf true N__law_cell.length (b__law_cell (fu0 ds)) ds
theorem F__law_cell (gf : GF K mg) : Fn P w K mg base T 1 "_law_cell" 2 r__law_cell := by
  obtain ⟨f, fd, F, hm, hb⟩ := gf.f__law_cell.ex
  refine fn_def (ι := Nat) (td := true) (b := b__law_cell) F S__law_cell hm hb (fun i cdv A outer s H E _ c => ?_) (fun ds S0 _ _ => ⟨fu0 ds, rfl⟩)
  exact (ds_cons (ds_if (dt_cmp op_lt s_cmp.op (de_var 1) (de_callB call_len d_len gf.z_len bt_len (da_cons (de_var 0) da_nil)) (nomark _)) (ds_cons (ds_ret (de_ix ix_seq s_ix.op (de_var 0) (de_var 1))) ds_nil) ds_nil) (ds_cons (ds_if (dt_cmp (op_eqD c.hu64) s_eq.op (de_callB call_len d_len gf.z_len bt_len (da_cons (de_var 0) da_nil)) de_int (nomark _)) (ds_cons (ds_ret (de_op op_addZ s_add.op (de_op op_mulW s_mul.op de_int (de_var 1)) de_int)) ds_nil) ds_nil) (ds_cons (ds_ret (de_op op_addZ s_add.op (de_op op_mod s_mod.op (de_ix ix_seq s_ix.op (de_var 0) (de_op op_mod s_mod.op (de_var 1) (de_callB call_len d_len gf.z_len bt_len (da_cons (de_var 0) da_nil)))) de_int) (de_op op_mulW s_mul.op de_int (de_var 1)))) ds_nil)))
def N__law_draws : List Str := ["_law_script", "_law_k", "_law_many", "_law_base", "_law_primes", "_law_cell_here", "_law_rest", "_law_row", "_law_j", "_law_mash"]
theorem S__law_draws : FnScope N__law_draws ["_law_script", "_law_k", "_law_many", "_law_base"] (defScope (top 25)) := C8.fnScope_by (by decide +kernel)
def b__law_draws (i : Nat) : BS := (sSeq (sSet 4 (eTup (aCons (eC (.int 2147483647)) (aCons (eC (.int 2147483629)) (aCons (eC (.int 2147483587)) (aCons (eC (.int 2147483579)) (aCons (eC (.int 2147483563)) (aCons (eC (.int 2147483549)) (aCons (eC (.int 2147483543)) (aCons (eC (.int 2147483497)) aNil)))))))))) (sSeq (sSet 5 (eCall 2 r__law_cell (aCons (eVar 0) (aCons (eVar 1) aNil)))) (sSeq (sSet 6 (eC (.int 0))) (sSeq (sIf (tB1 (e2 (g2 gGe) (eVar 5) (e2 (g2 gPow) (eC (.int 10)) (eC (.int 18))))) (sSeq (sSet 6 (eVar 5)) sNil) sNil) (sSeq (sSet 7 (eCel aNil)) (sSeq (sFor (iRg (eVar 2)) (.name 8) (sSeq (sSet 9 (e2 (g2 gMul) (e2 (g2 gMod) (eVar 5) (e2 (g2 gIx) (eVar 4) (e2 (g2 gMod) (eVar 8) (eC (.int 8))))) (e2 (g2 gAdd) (eC (.int 48271)) (e2 (g2 gMul) (e2 (g2 gMul) (eC (.int 2)) (eVar 8)) (eVar 8))))) (sSeq (sSet 9 (e2 (g2 gAdd) (e2 (g2 gAdd) (eVar 9) (e2 (g2 gMul) (e2 (g2 gMul) (eC (.int 7919)) (e2 (g2 gAdd) (eVar 8) (eC (.int 1)))) (e2 (g2 gAdd) (eVar 8) (eC (.int 1))))) (e2 (g2 gMul) (eC (.int 104729)) (eVar 1)))) (sSeq (sSet 9 (e2 (g2 gMod) (eVar 9) (e2 (g2 gIx) (eVar 4) (e2 (g2 gMod) (e2 (g2 gAdd) (e2 (g2 gMul) (eC (.int 3)) (eVar 8)) (eVar 1)) (eC (.int 8)))))) (sSeq (sSet 9 (e2 (g2 gMod) (e2 (g2 gMul) (e2 (g2 gMul) (eVar 9) (eVar 9)) (eVar 9)) (e2 (g2 gIx) (eVar 4) (e2 (g2 gMod) (e2 (g2 gAdd) (eVar 8) (eC (.int 5))) (eC (.int 8)))))) (sSeq (sIf (tB1 (e2 (g2 gGt) (eVar 6) (eC (.int 0)))) (sSeq (sSet 9 (eVar 6)) sNil) sNil) (sSeq (sExpr (eApp (eVar 7) (e2 (g2 gMod) (eVar 9) (eVar 3)))) (sSeq (sSet 6 (e2 (g2 gDiv) (eVar 6) (eVar 3))) sNil)))))))) (sSeq (sRet (eVar 7)) sNil)))))))
def r__law_draws : List D → M D := fun ds => fnOf false N__law_draws.length (b__law_draws (fu0 ds)) ds
theorem F__law_draws (gf : GF K mg) : Fn P w K mg base T 2 "_law_draws" 4 r__law_draws := by
  obtain ⟨f, fd, F, hm, hb⟩ := gf.f__law_draws.ex
  refine fn_def (ι := Nat) (td := false) (b := b__law_draws) F S__law_draws hm hb (fun i cdv A outer s H E _ c => ?_) (fun ds S0 _ _ => ⟨fu0 ds, rfl⟩)
  exact (ds_cons (ds_set 4 c.nd (de_tup (da_cons de_int (da_cons de_int (da_cons de_int (da_cons de_int (da_cons de_int (da_cons de_int (da_cons de_int (da_cons de_int da_nil)))))))))) (ds_cons (ds_set 5 c.nd (de_call (F__law_cell gf) c (da_cons (de_var 0) (da_cons (de_var 1) da_nil)) (by omega))) (ds_cons (ds_set 6 c.nd de_int) (ds_cons (ds_if (dt_cmp op_ge s_cmp.op (de_var 5) (de_op op_pow s_pow.op de_int de_int) (nomark _)) (ds_cons (ds_set 6 c.nd (de_var 5)) ds_nil) ds_nil) (ds_cons (ds_set 7 c.nd (de_cel da_nil)) (ds_cons (ds_for c (di_range (de_var 2) gf.z_range) (dg_name 8 c.nd) (ds_cons (ds_set 9 c.nd (de_op op_mulW s_mul.op (de_op op_mod s_mod.op (de_var 5) (de_ix ix_seq s_ix.op (de_var 4) (de_op op_mod s_mod.op (de_var 8) de_int))) (de_op op_addZ s_add.op de_int (de_op op_mulW s_mul.op (de_op op_mulW s_mul.op de_int (de_var 8)) (de_var 8))))) (ds_cons (ds_set 9 c.nd (de_op op_addZ s_add.op (de_op op_addZ s_add.op (de_var 9) (de_op op_mulW s_mul.op (de_op op_mulW s_mul.op de_int (de_op op_addZ s_add.op (de_var 8) de_int)) (de_op op_addZ s_add.op (de_var 8) de_int))) (de_op op_mulW s_mul.op de_int (de_var 1)))) (ds_cons (ds_set 9 c.nd (de_op op_mod s_mod.op (de_var 9) (de_ix ix_seq s_ix.op (de_var 4) (de_op op_mod s_mod.op (de_op op_addZ s_add.op (de_op op_mulW s_mul.op de_int (de_var 8)) (de_var 1)) de_int)))) (ds_cons (ds_set 9 c.nd (de_op op_mod s_mod.op (de_op op_mulW s_mul.op (de_op op_mulW s_mul.op (de_var 9) (de_var 9)) (de_var 9)) (de_ix ix_seq s_ix.op (de_var 4) (de_op op_mod s_mod.op (de_op op_addZ s_add.op (de_var 8) de_int) de_int)))) (ds_cons (ds_if (dt_cmp op_gt s_cmp.op (de_var 6) de_int (nomark _)) (ds_cons (ds_set 9 c.nd (de_var 6)) ds_nil) ds_nil) (ds_cons (ds_expr (de_append (de_var 7) (de_op op_mod s_mod.op (de_var 9) (de_var 3)))) (ds_cons (ds_set 6 c.nd (de_op op_fdivW s_div.op (de_var 6) (de_var 3))) ds_nil)))))))) (ds_cons (ds_ret (de_var 7)) ds_nil)))))))
def N__law_bag : List Str := ["_law_script", "_law_k"]
theorem S__law_bag : FnScope N__law_bag ["_law_script", "_law_k"] (defScope (top 26)) := C8.fnScope_by (by decide +kernel)
def b__law_bag (i : Nat) : BS := (sSeq (sRet (eCall 4 r__law_draws (aCons (eVar 0) (aCons (eVar 1) (aCons (eC (.int 150)) (aCons (eC (.int 27720)) aNil)))))) sNil)
def r__law_bag : List D → M D := fun ds => fnOf false N__law_bag.length (b__law_bag (fu0 ds)) ds
theorem F__law_bag (gf : GF K mg) : Fn P w K mg base T 3 "_law_bag" 2 r__law_bag := by
  obtain ⟨f, fd, F, hm, hb⟩ := gf.f__law_bag.ex
  refine fn_def (ι := Nat) (td := false) (b := b__law_bag) F S__law_bag hm hb (fun i cdv A outer s H E _ c => ?_) (fun ds S0 _ _ => ⟨fu0 ds, rfl⟩)
  exact (ds_cons (ds_ret (de_call (F__law_draws gf) c (da_cons (de_var 0) (da_cons (de_var 1) (da_cons de_int (da_cons de_int da_nil)))) (by omega))) ds_nil)
def N__law_take : List Str := ["_law_bag_here", "_law_many", "_law_draw"]
theorem S__law_take : FnScope N__law_take ["_law_bag_here", "_law_many"] (defScope (top 27)) := C8.fnScope_by (by decide +kernel)
def b__law_take (i : Nat) : BS := (sSeq (sSet 2 (eIf (tB1 (e2 (g2 gNe) (eVar 0) (eLst aNil))) (ePop (eVar 0) (eC (.int 0))) (eC (.int 0)))) (sSeq (sRet (e2 (g2 gMod) (eCB (c1 gInt) (aCons (eVar 2) aNil)) (eVar 1))) sNil))
def r__law_take : List D → M D := fun ds => fnOf true N__law_take.length (b__law_take (fu0 ds)) ds
theorem F__law_take (gf : GF K mg) : Fn P w K mg base T 1 "_law_take" 2 r__law_take := by
  obtain ⟨f, fd, F, hm, hb⟩ := gf.f__law_take.ex
  refine fn_def (ι := Nat) (td := true) (b := b__law_take) F S__law_take hm hb (fun i cdv A outer s H E _ c => ?_) (fun ds S0 _ _ => ⟨fu0 ds, rfl⟩)
  exact (ds_cons (ds_set 2 c.nd (de_if (dt_cmp (op_neD c.hu64) s_ne.op (de_var 0) (de_lst da_nil) (nomark _)) (de_popAt (de_var 0) de_int) de_int)) (ds_cons (ds_ret (de_op op_mod s_mod.op (de_callTy call_int1 d_int gf.z_int bt_int (da_cons (de_var 2) da_nil)) (de_var 1))) ds_nil))
def N__law_choice : List Str := ["_law_bag_here", "_law_some"]
theorem S__law_choice : FnScope N__law_choice ["_law_bag_here", "_law_some"] (defScope (top 28)) := C8.fnScope_by (by decide +kernel)
def b__law_choice (i : Nat) : BS := (sSeq (sRet (e2 (g2 gIx) (eVar 1) (eCall 2 r__law_take (aCons (eVar 0) (aCons (eCB (c1 gLen) (aCons (eVar 1) aNil)) aNil))))) sNil)
def r__law_choice : List D → M D := fun ds => fnOf true N__law_choice.length (b__law_choice (fu0 ds)) ds
theorem F__law_choice (gf : GF K mg) : Fn P w K mg base T 2 "_law_choice" 2 r__law_choice := by
  obtain ⟨f, fd, F, hm, hb⟩ := gf.f__law_choice.ex
  refine fn_def (ι := Nat) (td := true) (b := b__law_choice) F S__law_choice hm hb (fun i cdv A outer s H E _ c => ?_) (fun ds S0 _ _ => ⟨fu0 ds, rfl⟩)
  exact (ds_cons (ds_ret (de_ix ix_seq s_ix.op (de_var 1) (de_call (F__law_take gf) c (da_cons (de_var 0) (da_cons (de_callB call_len d_len gf.z_len bt_len (da_cons (de_var 1) da_nil)) da_nil)) (by omega)))) ds_nil)
def N__law_hall : List Str := ["_law_bag_here", "_law_most", "_law_high", "_law_end", "_law_places", "_law_made_so", "_law_turn", "_law_place", "_law_low"]
theorem S__law_hall : FnScope N__law_hall ["_law_bag_here", "_law_most"] (defScope (top 29)) := C8.fnScope_by (by decide +kernel)
def b__law_hall (i : Nat) : BS := (sSeq (sSet 2 (eCall 2 r__law_choice (aCons (eVar 0) (aCons (eLst (aCons (eC (.int 3)) (aCons (eC (.int 6)) (aCons (eC (.int 10)) (aCons (eC (.int 10)) (aCons (eC (.int 12)) (aCons (eC (.int 60)) aNil))))))) aNil)))) (sSeq (sSet 3 (e2 (g2 gSub) (eVar 2) (eCall 2 r__law_take (aCons (eVar 0) (aCons (eCB (c2 gMax2) (aCons (eC (.int 1)) (aCons (e2 (g2 gDiv) (eVar 2) (eC (.int 3))) aNil))) aNil))))) (sSeq (sPar 4 5 (eCel aNil) (eCel aNil)) (sSeq (sFor (iRg (eCall 2 r__law_take (aCons (eVar 0) (aCons (e2 (g2 gAdd) (eVar 1) (eC (.int 1))) aNil)))) (.name 6) (sSeq (sSet 7 (e2 (g2 gAdd) (eC (.int 1)) (eCall 2 r__law_take (aCons (eVar 0) (aCons (eCB (c2 gMax2) (aCons (eC (.int 1)) (aCons (e2 (g2 gSub) (eVar 3) (eC (.int 1))) aNil))) aNil))))) (sSeq (sIf (bAnd (tB1 (e2 (g2 (gIn true)) (eVar 7) (eVar 4))) (tB1 (e2 (g2 gLt) (eVar 7) (eVar 3)))) (sSeq (sExpr (eApp (eVar 4) (eVar 7))) sNil) sNil) sNil))) (sSeq (sFor (iSeq (eCB (c1 gSorted) (aCons (eVar 4) aNil))) (.name 7) (sSeq (sSet 8 (eCall 2 r__law_take (aCons (eVar 0) (aCons (e2 (g2 gAdd) (eVar 2) (eC (.int 1))) aNil)))) (sSeq (sExpr (eApp (eVar 5) (eTup (aCons (eVar 7) (aCons (eVar 8) (aCons (e2 (g2 gAdd) (eVar 8) (eCall 2 r__law_take (aCons (eVar 0) (aCons (e2 (g2 gAdd) (eCB (c2 gMin2) (aCons (e2 (g2 gSub) (eVar 2) (eVar 8)) (aCons (e2 (g2 gAdd) (eC (.int 2)) (e2 (g2 gDiv) (eVar 2) (eC (.int 2)))) aNil))) (eC (.int 1))) aNil)))) aNil)))))) sNil))) (sSeq (sRet (eTup (aCons (eVar 2) (aCons (eCB (c1 gTuple) (aCons (eVar 5) aNil)) (aCons (eVar 3) aNil))))) sNil))))))
def r__law_hall : List D → M D := fun ds => fnOf true N__law_hall.length (b__law_hall (fu0 ds)) ds
theorem F__law_hall (gf : GF K mg) : Fn P w K mg base T 3 "_law_hall" 2 r__law_hall := by
  obtain ⟨f, fd, F, hm, hb⟩ := gf.f__law_hall.ex
  refine fn_def (ι := Nat) (td := true) (b := b__law_hall) F S__law_hall hm hb (fun i cdv A outer s H E _ c => ?_) (fun ds S0 _ _ => ⟨fu0 ds, rfl⟩)
  exact (ds_cons (ds_set 2 c.nd (de_call (F__law_choice gf) c (da_cons (de_var 0) (da_cons (de_lst (da_cons de_int (da_cons de_int (da_cons de_int (da_cons de_int (da_cons de_int (da_cons de_int da_nil))))))) da_nil)) (by omega))) (ds_cons (ds_set 3 c.nd (de_op op_subZ s_sub.op (de_var 2) (de_call (F__law_take gf) c (da_cons (de_var 0) (da_cons (de_callB (call_max2 c.calm) d_max2 gf.z_max bt_max (da_cons de_int (da_cons (de_op op_fdivW s_div.op (de_var 2) de_int) da_nil))) da_nil)) (by omega)))) (ds_cons (ds_par 4 5 c.calm c.nd (de_cel da_nil) (de_cel da_nil)) (ds_cons (ds_for c (di_range (de_call (F__law_take gf) c (da_cons (de_var 0) (da_cons (de_op op_addZ s_add.op (de_var 1) de_int) da_nil)) (by omega)) gf.z_range) (dg_name 6 c.nd) (ds_cons (ds_set 7 c.nd (de_op op_addZ s_add.op de_int (de_call (F__law_take gf) c (da_cons (de_var 0) (da_cons (de_callB (call_max2 c.calm) d_max2 gf.z_max bt_max (da_cons de_int (da_cons (de_op op_subZ s_sub.op (de_var 3) de_int) da_nil))) da_nil)) (by omega)))) (ds_cons (ds_if (dt_w (dw_and (dt_cmp (op_ninZ c.hu) s_in.op (de_var 7) (de_var 4) (by with_unfolding_all rfl)) (dw_and1 (dt_cmp op_lt s_cmp.op (de_var 7) (de_var 3) (nomark _))))) (ds_cons (ds_expr (de_append (de_var 4) (de_var 7))) ds_nil) ds_nil) ds_nil))) (ds_cons (ds_for c (di_seq (de_callB cr_sortedI d_sorted gf.z_sorted bt_sorted (da_cons (de_var 4) da_nil))) (dg_name 7 c.nd) (ds_cons (ds_set 8 c.nd (de_call (F__law_take gf) c (da_cons (de_var 0) (da_cons (de_op op_addZ s_add.op (de_var 2) de_int) da_nil)) (by omega))) (ds_cons (ds_expr (de_append (de_var 5) (de_tup (da_cons (de_var 7) (da_cons (de_var 8) (da_cons (de_op op_addZ s_add.op (de_var 8) (de_call (F__law_take gf) c (da_cons (de_var 0) (da_cons (de_op op_addZ s_add.op (de_callB (call_min2 c.calm) d_min2 gf.z_min bt_min (da_cons (de_op op_subZ s_sub.op (de_var 2) (de_var 8)) (da_cons (de_op op_addZ s_add.op de_int (de_op op_fdivW s_div.op (de_var 2) de_int)) da_nil))) de_int) da_nil)) (by omega))) da_nil)))))) ds_nil))) (ds_cons (ds_ret (de_tup (da_cons (de_var 2) (da_cons (de_callTy call_tuple_of d_tuple gf.z_tuple bt_tuple (da_cons (de_var 5) da_nil)) (da_cons (de_var 3) da_nil))))) ds_nil))))))
def N__law_text : List Str := ["_law_hall_so", "_law_high", "_law_shuts", "_law_end", "_law_lines_so", "_law_one", "_law_part"]
theorem S__law_text : FnScope N__law_text ["_law_hall_so"] (defScope (top 32)) := C8.fnScope_by (by decide +kernel)
def b__law_text (i : Nat) : BS := (sSeq (sAsg (.tup [(.name 1), (.name 2), (.name 3)]) (eVar 0)) (sSeq (sSet 4 (eCel (aCons (e2 (g2 gAdd) (eC (.str "high ")) (eCB (c1 gStrI) (aCons (eVar 1) aNil))) aNil))) (sSeq (sFor (iSeq (eVar 2)) (.name 5) (sSeq (sExpr (eApp (eVar 4) (e2 (g2 gAdd) (eC (.str "wall ")) (eS1 (fun a b => rd b >>= gJoin a) (eC (.str " ")) (eLc [6] (iSeq (eVar 5)) (.name 6) bYes (eCB (c1 gStrI) (aCons (eVar 6) aNil))))))) sNil)) (sSeq (sRet (eS1 (fun a b => rd b >>= gJoin a) (eC (.str "\n")) (e2 (g2 gAdd) (eVar 4) (eLst (aCons (e2 (g2 gAdd) (eC (.str "end ")) (eCB (c1 gStrI) (aCons (eVar 3) aNil))) aNil))))) sNil))))
def r__law_text : List D → M D := fun ds => fnOf true N__law_text.length (b__law_text (fu0 ds)) ds
theorem F__law_text (gf : GF K mg) : Fn P w K mg base T 1 "_law_text" 1 r__law_text := by
  obtain ⟨f, fd, F, hm, hb⟩ := gf.f__law_text.ex
  refine fn_def (ι := Nat) (td := true) (b := b__law_text) F S__law_text hm hb (fun i cdv A outer s H E _ c => ?_) (fun ds S0 _ _ => ⟨fu0 ds, rfl⟩)
  exact (ds_cons (ds_asg (de_var 0) (dg_tup c.calm (dgs_cons (dg_name 1 c.nd) (dgs_cons (dg_name 2 c.nd) (dgs_cons (dg_name 3 c.nd) dgs_nil))))) (ds_cons (ds_set 4 c.nd (de_cel (da_cons (de_op op_addZ s_add.op de_str (de_callTy call_str_int d_strI gf.z_str bt_str (da_cons (de_var 1) da_nil))) da_nil))) (ds_cons (ds_for c (di_seq (de_var 2)) (dg_name 5 c.nd) (ds_cons (ds_expr (de_append (de_var 4) (de_op op_addZ s_add.op de_str (de_join de_str (de_lc [("_law_part", 6)] c (di_seq (de_var 5)) (fun _ _ _ _ _ => (dg_name 6 c.nd)) (fun _ _ _ _ _ _ => dts_nil) (fun _ _ _ _ _ _ => (de_callTy call_str_int d_strI gf.z_str bt_str (da_cons (de_var 6) da_nil))) (ok := by exact (show BlkOk N__law_text (defScope (top 32)) _ _ from blkOk_by (by decide +kernel)))))))) ds_nil)) (ds_cons (ds_ret (de_join de_str (de_op op_addZ s_add.op (de_var 4) (de_lst (da_cons (de_op op_addZ s_add.op de_str (de_callTy call_str_int d_strI gf.z_str bt_str (da_cons (de_var 3) da_nil))) da_nil))))) ds_nil))))
def N__law_bent : List Str := ["_law_bag_here", "_law_text_here", "_law_at", "_law_way", "_law_some", "_law_line", "_law_mark"]
theorem S__law_bent : FnScope N__law_bent ["_law_bag_here", "_law_text_here"] (defScope (top 35)) := C8.fnScope_by (by decide +kernel)
def b__law_bent (i : Nat) : BS := (sSeq (sPar 2 3 (eCall 2 r__law_take (aCons (eVar 0) (aCons (e2 (g2 gAdd) (eCB (c1 gLen) (aCons (eVar 1) aNil)) (eC (.int 1))) aNil))) (eCall 2 r__law_take (aCons (eVar 0) (aCons (eC (.int 6)) aNil)))) (sSeq (sSet 4 (eS1 gSplit (eVar 1) (eC (.str "\n")))) (sSeq (sSet 5 (eCall 2 r__law_take (aCons (eVar 0) (aCons (eCB (c1 gLen) (aCons (eVar 4) aNil)) aNil)))) (sSeq (sIf (tB1 (e2 (g2 gEq) (eVar 3) (eC (.int 0)))) (sSeq (sSet 6 (eCall 2 r__law_choice (aCons (eVar 0) (aCons (eLst (aCons (eC (.str " ")) (aCons (eC (.str "x")) (aCons (eC (.str "\n")) (aCons (eC (.str "1")) (aCons (eC (.str "0")) (aCons (eC (.str " 2")) (aCons (eC (.str "\nwall 1 0 1")) (aCons (eC (.str "\nend 3")) (aCons (eC (.str "-")) aNil)))))))))) aNil)))) (sSeq (sRet (e2 (g2 gAdd) (e2 (g2 gAdd) (eSlS (eVar 1) oNone (oSome (eVar 2))) (eVar 6)) (eSlS (eVar 1) (oSome (eVar 2)) oNone))) sNil)) sNil) (sSeq (sIf (tB1 (e2 (g2 gEq) (eVar 3) (eC (.int 1)))) (sSeq (sRet (e2 (g2 gAdd) (eSlS (eVar 1) oNone (oSome (eVar 2))) (eSlS (eVar 1) (oSome (e2 (g2 gAdd) (eVar 2) (eC (.int 1)))) oNone))) sNil) sNil) (sSeq (sIf (tB1 (e2 (g2 gEq) (eVar 3) (eC (.int 2)))) (sSeq (sRet (eS1 (fun a b => rd b >>= gJoin a) (eC (.str "\n")) (e2 (g2 gAdd) (eSl (eVar 4) oNone (oSome (eVar 5))) (eSl (eVar 4) (oSome (e2 (g2 gAdd) (eVar 5) (eC (.int 1)))) oNone)))) sNil) sNil) (sSeq (sIf (tB1 (e2 (g2 gEq) (eVar 3) (eC (.int 3)))) (sSeq (sRet (eS1 (fun a b => rd b >>= gJoin a) (eC (.str "\n")) (e2 (g2 gAdd) (eSl (eVar 4) oNone (oSome (e2 (g2 gAdd) (eVar 5) (eC (.int 1))))) (eSl (eVar 4) (oSome (eVar 5)) oNone)))) sNil) sNil) (sSeq (sIf (tB1 (e2 (g2 gEq) (eVar 3) (eC (.int 4)))) (sSeq (sRet (eS1 (fun a b => rd b >>= gJoin a) (eC (.str "\n")) (e2 (g2 gAdd) (eSl (eVar 4) (oSome (eVar 5)) oNone) (eSl (eVar 4) oNone (oSome (eVar 5)))))) sNil) sNil) (sSeq (sRet (eS1 (fun a b => rd b >>= gJoin a) (eC (.str "\n")) (e2 (g2 gAdd) (eSl (eVar 4) oNone (oSome (eC (.int 1)))) (e1 (g1 gDown) (eVar 4))))) sNil)))))))))
def r__law_bent : List D → M D := fun ds => fnOf true N__law_bent.length (b__law_bent (fu0 ds)) ds
theorem F__law_bent (gf : GF K mg) : Fn P w K mg base T 3 "_law_bent" 2 r__law_bent := by
  obtain ⟨f, fd, F, hm, hb⟩ := gf.f__law_bent.ex
  refine fn_def (ι := Nat) (td := true) (b := b__law_bent) F S__law_bent hm hb (fun i cdv A outer s H E _ c => ?_) (fun ds S0 _ _ => ⟨fu0 ds, rfl⟩)
  exact (ds_cons (ds_par 2 3 c.calm c.nd (de_call (F__law_take gf) c (da_cons (de_var 0) (da_cons (de_op op_addZ s_add.op (de_callB call_len d_len gf.z_len bt_len (da_cons (de_var 1) da_nil)) de_int) da_nil)) (by omega)) (de_call (F__law_take gf) c (da_cons (de_var 0) (da_cons de_int da_nil)) (by omega))) (ds_cons (ds_set 4 c.nd (de_split (de_var 1) de_str)) (ds_cons (ds_set 5 c.nd (de_call (F__law_take gf) c (da_cons (de_var 0) (da_cons (de_callB call_len d_len gf.z_len bt_len (da_cons (de_var 4) da_nil)) da_nil)) (by omega))) (ds_cons (ds_if (dt_cmp (op_eqD c.hu64) s_eq.op (de_var 3) de_int (nomark _)) (ds_cons (ds_set 6 c.nd (de_call (F__law_choice gf) c (da_cons (de_var 0) (da_cons (de_lst (da_cons de_str (da_cons de_str (da_cons de_str (da_cons de_str (da_cons de_str (da_cons de_str (da_cons de_str (da_cons de_str (da_cons de_str da_nil)))))))))) da_nil)) (by omega))) (ds_cons (ds_ret (de_op op_addZ s_add.op (de_op op_addZ s_add.op (de_slS (de_var 1) do_none (do_some (de_var 2))) (de_var 6)) (de_slS (de_var 1) (do_some (de_var 2)) do_none))) ds_nil)) ds_nil) (ds_cons (ds_if (dt_cmp (op_eqD c.hu64) s_eq.op (de_var 3) de_int (nomark _)) (ds_cons (ds_ret (de_op op_addZ s_add.op (de_slS (de_var 1) do_none (do_some (de_var 2))) (de_slS (de_var 1) (do_some (de_op op_addZ s_add.op (de_var 2) de_int)) do_none))) ds_nil) ds_nil) (ds_cons (ds_if (dt_cmp (op_eqD c.hu64) s_eq.op (de_var 3) de_int (nomark _)) (ds_cons (ds_ret (de_join de_str (de_op op_addZ s_add.op (de_sl (de_var 4) do_none (do_some (de_var 5))) (de_sl (de_var 4) (do_some (de_op op_addZ s_add.op (de_var 5) de_int)) do_none)))) ds_nil) ds_nil) (ds_cons (ds_if (dt_cmp (op_eqD c.hu64) s_eq.op (de_var 3) de_int (nomark _)) (ds_cons (ds_ret (de_join de_str (de_op op_addZ s_add.op (de_sl (de_var 4) do_none (do_some (de_op op_addZ s_add.op (de_var 5) de_int))) (de_sl (de_var 4) (do_some (de_var 5)) do_none)))) ds_nil) ds_nil) (ds_cons (ds_if (dt_cmp (op_eqD c.hu64) s_eq.op (de_var 3) de_int (nomark _)) (ds_cons (ds_ret (de_join de_str (de_op op_addZ s_add.op (de_sl (de_var 4) (do_some (de_var 5)) do_none) (de_sl (de_var 4) do_none (do_some (de_var 5)))))) ds_nil) ds_nil) (ds_cons (ds_ret (de_join de_str (de_op op_addZ s_add.op (de_sl (de_var 4) do_none (do_some de_int)) (de_down (de_var 4))))) ds_nil)))))))))
def N_is_row : List Str := ["value", "low", "high"]
theorem S_is_row : FnScope N_is_row ["value", "low", "high"] (defScope (top 14)) := C8.fnScope_by (by decide +kernel)
def b_is_row (i : Nat) : BS := (sSeq (sRet (eAnd (eIsi "tuple" (eVar 0)) (eChain (g2 gLe) (g2 gLe) (eVar 1) (eCB (c1 gLen) (aCons (eVar 0) aNil)) (eVar 2)))) sNil)
def r_is_row : List D → M D := fun ds => fnOf true N_is_row.length (b_is_row (fu0 ds)) ds
theorem F_is_row (gf : GF K mg) : Fn P w K mg base T 1 "is_row" 3 r_is_row := by
  obtain ⟨f, fd, F, hm, hb⟩ := gf.f_is_row.ex
  refine fn_def (ι := Nat) (td := true) (b := b_is_row) F S_is_row hm hb (fun i cdv A outer s H E _ c => ?_) (fun ds S0 _ _ => ⟨fu0 ds, rfl⟩)
  exact (ds_cons (ds_ret (de_and (de_isi (de_var 0) gf.z_isinstance bt_isinstance gf.z_tuple bt_tuple) (de_one (de_chain op_le op_le s_cmp.op s_cmp.op (de_var 1) (de_callB call_len d_len gf.z_len bt_len (da_cons (de_var 0) da_nil)) (de_var 2))))) ds_nil)
def N_is_whole : List Str := ["value", "low", "high"]
theorem S_is_whole : FnScope N_is_whole ["value", "low", "high"] (defScope (top 13)) := C8.fnScope_by (by decide +kernel)
def b_is_whole (i : Nat) : BS := (sSeq (sRet (eAnd (eIsi "int" (eVar 0)) (eAnd (eNot (eIsi "bool" (eVar 0))) (eChain (g2 gLe) (g2 gLe) (eVar 1) (eVar 0) (eVar 2))))) sNil)
def r_is_whole : List D → M D := fun ds => fnOf true N_is_whole.length (b_is_whole (fu0 ds)) ds
theorem F_is_whole (gf : GF K mg) : Fn P w K mg base T 1 "is_whole" 3 r_is_whole := by
  obtain ⟨f, fd, F, hm, hb⟩ := gf.f_is_whole.ex
  refine fn_def (ι := Nat) (td := true) (b := b_is_whole) F S_is_whole hm hb (fun i cdv A outer s H E _ c => ?_) (fun ds S0 _ _ => ⟨fu0 ds, rfl⟩)
  exact (ds_cons (ds_ret (de_and (de_isi (de_var 0) gf.z_isinstance bt_isinstance gf.z_int bt_int) (de_and (de_not (de_isi (de_var 0) gf.z_isinstance bt_isinstance gf.z_bool bt_bool)) (de_one (de_chain op_le op_le s_cmp.op s_cmp.op (de_var 1) (de_var 0) (de_var 2)))))) ds_nil)
def N_is_wall : List Str := ["high", "end", "value"]
theorem S_is_wall : FnScope N_is_wall ["high", "end", "value"] (defScope (top 15)) := C8.fnScope_by (by decide +kernel)
def b_is_wall (i : Nat) : BS := (sSeq (sIf (bOr (bNot (bTru (eCall 3 r_is_row (aCons (eVar 2) (aCons (eC (.int 3)) (aCons (eC (.int 3)) aNil)))))) (bNot (bTru (eCall 3 r_is_whole (aCons (e2 (g2 gIx) (eVar 2) (eC (.int 0))) (aCons (eC (.int 1)) (aCons (e2 (g2 gSub) (eVar 1) (eC (.int 1))) aNil))))))) (sSeq (sRet (eC (.bool false))) sNil) sNil) (sSeq (sRet (eAnd (eCall 3 r_is_whole (aCons (e2 (g2 gIx) (eVar 2) (eC (.int 2))) (aCons (eC (.int 0)) (aCons (eVar 0) aNil)))) (eCall 3 r_is_whole (aCons (e2 (g2 gIx) (eVar 2) (eC (.int 1))) (aCons (eC (.int 0)) (aCons (e2 (g2 gIx) (eVar 2) (eC (.int 2))) aNil)))))) sNil))
def r_is_wall : List D → M D := fun ds => fnOf true N_is_wall.length (b_is_wall (fu0 ds)) ds
theorem F_is_wall (gf : GF K mg) : Fn P w K mg base T 2 "is_wall" 3 r_is_wall := by
  obtain ⟨f, fd, F, hm, hb⟩ := gf.f_is_wall.ex
  refine fn_def (ι := Nat) (td := true) (b := b_is_wall) F S_is_wall hm hb (fun i cdv A outer s H E _ c => ?_) (fun ds S0 _ _ => ⟨fu0 ds, rfl⟩)
  exact (ds_cons (ds_if (dt_w (dw_or (dt_not (dt_tru (de_call (F_is_row gf) c (da_cons (de_var 2) (da_cons de_int (da_cons de_int da_nil))) (by omega)))) (dw_or1 (dt_not (dt_tru (de_call (F_is_whole gf) c (da_cons (de_ix ix_seq s_ix.op (de_var 2) de_int) (da_cons de_int (da_cons (de_op op_subZ s_sub.op (de_var 1) de_int) da_nil))) (by omega))))))) (ds_cons (ds_ret de_bl) ds_nil) ds_nil) (ds_cons (ds_ret (de_and (de_call (F_is_whole gf) c (da_cons (de_ix ix_seq s_ix.op (de_var 2) de_int) (da_cons de_int (da_cons (de_var 0) da_nil))) (by omega)) (de_one (de_call (F_is_whole gf) c (da_cons (de_ix ix_seq s_ix.op (de_var 2) de_int) (da_cons de_int (da_cons (de_ix ix_seq s_ix.op (de_var 2) de_int) da_nil))) (by omega))))) ds_nil))
def N_is_hall : List Str := ["value", "high", "walls", "end", "wall", "one", "other"]
theorem S_is_hall : FnScope N_is_hall ["value"] (defScope (top 16)) := C8.fnScope_by (by decide +kernel)
def b_is_hall (i : Nat) : BS := (sSeq (sIf (bOr (bNot (bTru (eCall 3 r_is_row (aCons (eVar 0) (aCons (eC (.int 3)) (aCons (eC (.int 3)) aNil)))))) (bOr (bNot (bTru (eCall 3 r_is_whole (aCons (e2 (g2 gIx) (eVar 0) (eC (.int 0))) (aCons (eC (.int 1)) (aCons (eC (.int 60)) aNil)))))) (bNot (bTru (eCall 3 r_is_whole (aCons (e2 (g2 gIx) (eVar 0) (eC (.int 2))) (aCons (eC (.int 1)) (aCons (e2 (g2 gIx) (eVar 0) (eC (.int 0))) aNil)))))))) (sSeq (sRet (eC (.bool false))) sNil) sNil) (sSeq (sAsg (.tup [(.name 1), (.name 2), (.name 3)]) (eVar 0)) (sSeq (sIf (bOr (bNot (bTru (eCall 3 r_is_row (aCons (eVar 2) (aCons (eC (.int 0)) (aCons (eC (.int 3)) aNil)))))) (bNot (bTru (eCB (c1 gAll) (aCons (eLc [4] (iSeq (eVar 2)) (.name 4) bYes (eCall 3 r_is_wall (aCons (eVar 1) (aCons (eVar 3) (aCons (eVar 4) aNil))))) aNil))))) (sSeq (sRet (eC (.bool false))) sNil) sNil) (sSeq (sRet (eCB (c1 gAll) (aCons (eLc [5, 6] (iZp (eVar 2) (eSl (eVar 2) (oSome (eC (.int 1))) oNone)) (.tup [(.name 5), (.name 6)]) bYes (e2 (g2 gLt) (e2 (g2 gIx) (eVar 5) (eC (.int 0))) (e2 (g2 gIx) (eVar 6) (eC (.int 0))))) aNil))) sNil))))
def r_is_hall : List D → M D := fun ds => fnOf true N_is_hall.length (b_is_hall (fu0 ds)) ds
theorem F_is_hall (gf : GF K mg) : Fn P w K mg base T 3 "is_hall" 1 r_is_hall := by
  obtain ⟨f, fd, F, hm, hb⟩ := gf.f_is_hall.ex
  refine fn_def (ι := Nat) (td := true) (b := b_is_hall) F S_is_hall hm hb (fun i cdv A outer s H E _ c => ?_) (fun ds S0 _ _ => ⟨fu0 ds, rfl⟩)
  exact (ds_cons (ds_if (dt_w (dw_or (dt_not (dt_tru (de_call (F_is_row gf) c (da_cons (de_var 0) (da_cons de_int (da_cons de_int da_nil))) (by omega)))) (dw_or (dt_not (dt_tru (de_call (F_is_whole gf) c (da_cons (de_ix ix_seq s_ix.op (de_var 0) de_int) (da_cons de_int (da_cons de_int da_nil))) (by omega)))) (dw_or1 (dt_not (dt_tru (de_call (F_is_whole gf) c (da_cons (de_ix ix_seq s_ix.op (de_var 0) de_int) (da_cons de_int (da_cons (de_ix ix_seq s_ix.op (de_var 0) de_int) da_nil))) (by omega)))))))) (ds_cons (ds_ret de_bl) ds_nil) ds_nil) (ds_cons (ds_asg (de_var 0) (dg_tup c.calm (dgs_cons (dg_name 1 c.nd) (dgs_cons (dg_name 2 c.nd) (dgs_cons (dg_name 3 c.nd) dgs_nil))))) (ds_cons (ds_if (dt_w (dw_or (dt_not (dt_tru (de_call (F_is_row gf) c (da_cons (de_var 2) (da_cons de_int (da_cons de_int da_nil))) (by omega)))) (dw_or1 (dt_not (dt_tru (de_callB (cr_all c.calm) d_all gf.z_all bt_all (da_cons (de_lc [("wall", 4)] c (di_seq (de_var 2)) (fun _ _ _ _ _ => (dg_name 4 c.nd)) (fun _ _ _ _ _ _ => dts_nil) (fun _ _ _ _ _ c => (de_call (F_is_wall gf) c (da_cons (de_var 1) (da_cons (de_var 3) (da_cons (de_var 4) da_nil))) (by omega))) (ok := by exact (show BlkOk N_is_hall (defScope (top 16)) _ _ from blkOk_by (by decide +kernel)))) da_nil))))))) (ds_cons (ds_ret de_bl) ds_nil) ds_nil) (ds_cons (ds_ret (de_callB (cr_all c.calm) d_all gf.z_all bt_all (da_cons (de_lc [("one", 5), ("other", 6)] c (di_zip (de_var 2) (de_sl (de_var 2) (do_some de_int) do_none) gf.z_zip) (fun _ _ _ _ _ => (dg_tup c.calm (dgs_cons (dg_name 5 c.nd) (dgs_cons (dg_name 6 c.nd) dgs_nil)))) (fun _ _ _ _ _ _ => dts_nil) (fun _ _ _ _ _ _ => (de_cmp op_lt s_cmp.op (de_ix ix_seq s_ix.op (de_var 5) de_int) (de_ix ix_seq s_ix.op (de_var 6) de_int) (nomark _))) (ok := by exact (show BlkOk N_is_hall (defScope (top 16)) _ _ from blkOk_by (by decide +kernel)))) da_nil))) ds_nil))))
def N__law_integer : List Str := ["_law_word", "_law_mark"]
theorem S__law_integer : FnScope N__law_integer ["_law_word"] (defScope (top 33)) := C8.fnScope_by (by decide +kernel)
def b__law_integer (i : Nat) : BS := (sSeq (sIf (bOr (tB1 (e2 (g2 gEq) (eVar 0) (eC (.str "")))) (bOr (tB1 (e2 (g2 gGt) (eCB (c1 gLen) (aCons (eVar 0) aNil)) (eC (.int 2)))) (tB1 (e2 (g2 gNe) (eLc [1] (iTxt (eVar 0)) (.name 1) (tB1 (e2 (g2 (gIn true)) (eVar 1) (eC (.str "0123456789")))) (eVar 1)) (eLst aNil))))) (sSeq (sRet (eC .none)) sNil) sNil) (sSeq (sRet (eIf (tB1 (e2 (g2 gEq) (eCB (c1 gStrI) (aCons (eCB (c1 gIntS) (aCons (eVar 0) aNil)) aNil)) (eVar 0))) (eCB (c1 gIntS) (aCons (eVar 0) aNil)) (eC .none))) sNil))
def r__law_integer : List D → M D := fun ds => fnOf true N__law_integer.length (b__law_integer (fu0 ds)) ds
theorem F__law_integer (gf : GF K mg) : Fn P w K mg base T 1 "_law_integer" 1 r__law_integer := by
  obtain ⟨f, fd, F, hm, hb⟩ := gf.f__law_integer.ex
  refine fn_def (ι := Nat) (td := true) (b := b__law_integer) F S__law_integer hm hb (fun i cdv A outer s H E _ c => ?_) (fun ds S0 _ _ => ⟨fu0 ds, rfl⟩)
  exact (ds_cons (ds_if (dt_w (dw_or (dt_cmp (op_eqD c.hu64) s_eq.op (de_var 0) de_str (nomark _)) (dw_or (dt_cmp op_gt s_cmp.op (de_callB call_len d_len gf.z_len bt_len (da_cons (de_var 0) da_nil)) de_int (nomark _)) (dw_or1 (dt_cmp (op_neD c.hu64) s_ne.op (de_lc [("_law_mark", 1)] c (di_txt (de_var 0)) (fun _ _ _ _ _ => (dg_name 1 c.nd)) (fun _ _ _ _ _ c => (dts_one (dt_cmp (op_ninZ c.hu) s_in.op (de_var 1) de_str (by with_unfolding_all rfl)))) (fun _ _ _ _ _ _ => (de_var 1)) (ok := by exact (show BlkOk N__law_integer (defScope (top 33)) _ _ from blkOk_by (by decide +kernel)))) (de_lst da_nil) (nomark _)))))) (ds_cons (ds_ret de_non) ds_nil) ds_nil) (ds_cons (ds_ret (de_if (dt_cmp (op_eqD c.hu64) s_eq.op (de_callTy call_str_int d_strI gf.z_str bt_str (da_cons (de_callTy call_int_str d_intS gf.z_int bt_int (da_cons (de_var 0) da_nil)) da_nil)) (de_var 0) (nomark _)) (de_callTy call_int_str d_intS gf.z_int bt_int (da_cons (de_var 0) da_nil)) de_non)) ds_nil))
def blk_135_17 : Scope := { kind := .function, names := [(".0", .local), ("_law_line", .local), ("tuple", .globalImplicit)], isGenerator := false, isCoroutine := false, more := [] }
def N__law_read : List Str := ["_law_text_here", "_law_lines_so", "_law_labels", "_law_parts", "_law_found", "_law_line", "_law_word"]
theorem S__law_read : FnScope N__law_read ["_law_text_here"] (defScope (top 34)) := C8.fnScope_by (by decide +kernel)
def b__law_read (i : Nat) : BS := (sSeq (sSet 1 (eLc [5] (iSeq (eS1 gSplit (eVar 0) (eC (.str "\n")))) (.name 5) bYes (eS1 gSplit (eVar 5) (eC (.str " "))))) (sSeq (sSet 2 (e2 (g2 gAdd) (e2 (g2 gAdd) (eLst (aCons (eC (.str "high")) aNil)) (e2 (g2 gRep) (eLst (aCons (eC (.str "wall")) aNil)) (e2 (g2 gSub) (eCB (c1 gLen) (aCons (eVar 1) aNil)) (eC (.int 2))))) (eLst (aCons (eC (.str "end")) aNil)))) (sSeq (sIf (bOr (tB1 (e2 (g2 gLt) (eCB (c1 gLen) (aCons (eVar 1) aNil)) (eC (.int 2)))) (tB1 (e2 (g2 gNe) (eLc [5] (iSeq (eVar 1)) (.name 5) bYes (e2 (g2 gIx) (eVar 5) (eC (.int 0)))) (eVar 2)))) (sSeq (sRet (eC .none)) sNil) sNil) (sSeq (sSet 3 (eLc [5] (iSeq (eVar 1)) (.name 5) bYes (eCB (c1 gTuple) (aCons (eLc [6] (iSeq (eSl (eVar 5) (oSome (eC (.int 1))) oNone)) (.name 6) bYes (eCall 1 r__law_integer (aCons (eVar 6) aNil))) aNil)))) (sSeq (sIf (bOr (tB1 (e2 (g2 gNe) (eCB (c1 gLen) (aCons (e2 (g2 gIx) (eVar 3) (eC (.int 0))) aNil)) (eC (.int 1)))) (tB1 (e2 (g2 gNe) (eCB (c1 gLen) (aCons (e2 (g2 gIx) (eVar 3) (e1 (g1 gNeg) (eC (.int 1)))) aNil)) (eC (.int 1))))) (sSeq (sRet (eC .none)) sNil) sNil) (sSeq (sSet 4 (eTup (aCons (e2 (g2 gIx) (e2 (g2 gIx) (eVar 3) (eC (.int 0))) (eC (.int 0))) (aCons (eCB (c1 gTuple) (aCons (eSl (eVar 3) (oSome (eC (.int 1))) (oSome (e1 (g1 gNeg) (eC (.int 1))))) aNil)) (aCons (e2 (g2 gIx) (e2 (g2 gIx) (eVar 3) (e1 (g1 gNeg) (eC (.int 1)))) (eC (.int 0))) aNil))))) (sSeq (sRet (eIf (bTru (eCall 1 r_is_hall (aCons (eVar 4) aNil))) (eVar 4) (eC .none))) sNil)))))))
def r__law_read : List D → M D := fun ds => fnOf true N__law_read.length (b__law_read (fu0 ds)) ds
theorem F__law_read (gf : GF K mg) : Fn P w K mg base T 4 "_law_read" 1 r__law_read := by
  obtain ⟨f, fd, F, hm, hb⟩ := gf.f__law_read.ex
  refine fn_def (ι := Nat) (td := true) (b := b__law_read) F S__law_read hm hb (fun i cdv A outer s H E _ c => ?_) (fun ds S0 _ _ => ⟨fu0 ds, rfl⟩)
  exact (ds_cons (ds_lc 1 [("_law_line", 5)] c (di_seq (de_split (de_var 0) de_str)) (fun _ _ _ _ _ => (dg_name 5 c.nd)) (fun _ _ _ _ _ _ => dts_nil) (fun _ _ _ _ _ _ => (de_split (de_var 5) de_str)) (ok := by exact (show BlkOk N__law_read (defScope (top 34)) _ _ from blkOk_by (by decide +kernel)))) (ds_cons (ds_set 2 c.nd (de_op op_addZ s_add.op (de_op op_addZ s_add.op (de_lst (da_cons de_str da_nil)) (de_op op_rep2 s_rep.op (de_lst (da_cons de_str da_nil)) (de_op op_subZ s_sub.op (de_callB call_len d_len gf.z_len bt_len (da_cons (de_var 1) da_nil)) de_int))) (de_lst (da_cons de_str da_nil)))) (ds_cons (ds_if (dt_w (dw_or (dt_cmp op_lt s_cmp.op (de_callB call_len d_len gf.z_len bt_len (da_cons (de_var 1) da_nil)) de_int (nomark _)) (dw_or1 (dt_cmp (op_neD c.hu64) s_ne.op (de_lc [("_law_line", 5)] c (di_seq (de_var 1)) (fun _ _ _ _ _ => (dg_name 5 c.nd)) (fun _ _ _ _ _ _ => dts_nil) (fun _ _ _ _ _ _ => (de_ix ix_seq s_ix.op (de_var 5) de_int)) (ok := by exact (show BlkOk N__law_read (defScope (top 34)) _ _ from blkOk_by (by decide +kernel)))) (de_var 2) (nomark _))))) (ds_cons (ds_ret de_non) ds_nil) ds_nil) (ds_cons (ds_lc 3 [("_law_line", 5)] c (di_seq (de_var 1)) (fun _ _ _ _ _ => (dg_name 5 c.nd)) (fun _ _ _ _ _ _ => dts_nil) (fun _ _ _ _ _ c => (de_callTy call_tuple_of d_tuple gf.z_tuple bt_tuple (da_cons (de_lc [("_law_word", 6)] c (di_seq (de_sl (de_var 5) (do_some de_int) do_none)) (fun _ _ _ _ _ => (dg_name 6 c.nd)) (fun _ _ _ _ _ _ => dts_nil) (fun _ _ _ _ _ c => (de_call (F__law_integer gf) c (da_cons (de_var 6) da_nil) (by omega))) (ok := by exact (show BlkOk N__law_read (relS blk_135_17 (defScope (top 34))) _ _ from blkOk_by (by decide +kernel)))) da_nil))) (ok := by exact (show BlkOk N__law_read (defScope (top 34)) _ _ from blkOk_by (by decide +kernel)))) (ds_cons (ds_if (dt_w (dw_or (dt_cmp (op_neD c.hu64) s_ne.op (de_callB call_len d_len gf.z_len bt_len (da_cons (de_ix ix_seq s_ix.op (de_var 3) de_int) da_nil)) de_int (nomark _)) (dw_or1 (dt_cmp (op_neD c.hu64) s_ne.op (de_callB call_len d_len gf.z_len bt_len (da_cons (de_ix ix_seq s_ix.op (de_var 3) (de_un un_neg s_neg.op de_int)) da_nil)) de_int (nomark _))))) (ds_cons (ds_ret de_non) ds_nil) ds_nil) (ds_cons (ds_set 4 c.nd (de_tup (da_cons (de_ix ix_seq s_ix.op (de_ix ix_seq s_ix.op (de_var 3) de_int) de_int) (da_cons (de_callTy call_tuple_of d_tuple gf.z_tuple bt_tuple (da_cons (de_sl (de_var 3) (do_some de_int) (do_some (de_un un_neg s_neg.op de_int))) da_nil)) (da_cons (de_ix ix_seq s_ix.op (de_ix ix_seq s_ix.op (de_var 3) (de_un un_neg s_neg.op de_int)) de_int) da_nil))))) (ds_cons (ds_ret (de_if (dt_tru (de_call (F_is_hall gf) c (da_cons (de_var 4) da_nil) (by omega))) (de_var 4) de_non)) ds_nil)))))))
def N__law_named_error : List Str := ["_law_e", "_law_some", "_law_words_so", "_law_word", "_law_good"]
theorem S__law_named_error : FnScope N__law_named_error ["_law_e"] (defScope (top 30)) := C8.fnScope_by (by decide +kernel)
def b__law_named_error (a : Addr) (cn : Str) : BS := (sSeq (sSet 1 (eCel (aCons (eIsE a (decide (cn = "InvalidHall")) (eVar 0)) (aCons (eIsE a (decide (cn = "InvalidRay")) (eVar 0)) (aCons (eIsE a (decide (cn = "InvalidWord")) (eVar 0)) aNil))))) (sSeq (sSet 1 (e2 (g2 gAddC) (eVar 1) (eLst (aCons (eIsE a (decide (cn = "InvalidWall")) (eVar 0)) (aCons (eIsE a (decide (cn = "InvalidPaper")) (eVar 0)) (aCons (eIsE a (decide (cn = "InvalidFacts")) (eVar 0)) aNil)))))) (sSeq (sSet 1 (e2 (g2 gAddC) (eVar 1) (eLst (aCons (eIsE a (decide (cn = "InvalidDeed")) (eVar 0)) (aCons (eIsE a (decide (cn = "InvalidText")) (eVar 0)) (aCons (eIsE a (decide (cn = "Unlike")) (eVar 0)) aNil)))))) (sSeq (sExpr (eApp (eVar 1) (eIsE a (decide (cn = "NothingToUndo")) (eVar 0)))) (sSeq (sSet 2 (eC (.str "hall ray word wall paper facts deed text unlike undo"))) (sSeq (sRet (eS1 (fun a b => rd b >>= gJoin a) (eC (.str " ")) (ePick (eS1 gSplit (eVar 2) (eC (.str " "))) (eVar 1)))) sNil))))))
theorem words_split : gSplit "hall ray word wall paper facts deed text unlike undo" (.str " ") = pure (.list [.str "hall", .str "ray", .str "word", .str "wall", .str "paper", .str "facts", .str "deed", .str "text", .str "unlike", .str "undo"]) := by
  have e : Txt.split "hall ray word wall paper facts deed text unlike undo" " " = (["hall", "ray", "word", "wall", "paper", "facts", "deed", "text", "unlike", "undo"] : List Str) := by decide +kernel
  unfold gSplit
  dsimp only
  rw [if_pos (by decide +kernel), e]
  rfl
theorem join_one (w : Str) (h1 : Txt.join " " [w] = w) (h2 : ([w].map (·.length)).sum + [w].length * (" " : Str).length ≤ 1000000) : gJoin " " (.list [.str w]) = pure (.str w) := by
  have e : strD [.str w] = some [w] := rfl
  unfold gJoin
  dsimp only
  rw [e]
  simp only [Option.bind_some]
  rw [if_pos h2, h1]
  rfl
theorem named_eval (a : Addr) (cn : Str) (S0 : Store) (hc : cn ∈ (["InvalidHall", "InvalidRay", "InvalidWord", "InvalidWall", "InvalidPaper", "InvalidFacts", "InvalidDeed", "InvalidText", "Unlike", "NothingToUndo"] : List Str)) : fnOf true N__law_named_error.length (b__law_named_error a cn) [.adr a] S0 = .ok (.str (wdE cn)) S0 := by
  have h0 : ∀ b0 b1 b2 b3 b4 b5 b6 b7 b8 b9 : Bool, decide (cn = "InvalidHall") = b0 → decide (cn = "InvalidRay") = b1 → decide (cn = "InvalidWord") = b2 → decide (cn = "InvalidWall") = b3 → decide (cn = "InvalidPaper") = b4 → decide (cn = "InvalidFacts") = b5 → decide (cn = "InvalidDeed") = b6 → decide (cn = "InvalidText") = b7 → decide (cn = "Unlike") = b8 → decide (cn = "NothingToUndo") = b9 →
      ∀ r : Str, gJoin " " (.list (pickD [.str "hall", .str "ray", .str "word", .str "wall", .str "paper", .str "facts", .str "deed", .str "text", .str "unlike", .str "undo"] [b0, b1, b2, b3, b4, b5, b6, b7, b8, b9])) = pure (.str r) → fnOf true N__law_named_error.length (b__law_named_error a cn) [.adr a] S0 = .ok (.str r) S0 := by
    intro b0 b1 b2 b3 b4 b5 b6 b7 b8 b9 h0 h1 h2 h3 h4 h5 h6 h7 h8 h9 r hr
    simp [fnOf, b__law_named_error, N__law_named_error, endF, endT, sSeq, sNil, sSet, sExpr, sRet, thenS, eCel, eLst, aCons, aNil, eIsE, eVar, eC, e2, g2, gAddC, newCell, fixDs, fixD, rd, bd_ap, eApp, isCell, push, cellAt, setCell, eS1, isStr, ePick, words_split, gPick, bools, h0, h1, h2, h3, h4, h5, h6, h7, h8, h9, hr]
  simp only [List.mem_cons, List.not_mem_nil, or_false] at hc
  rcases hc with rfl | rfl | rfl | rfl | rfl | rfl | rfl | rfl | rfl | rfl
  · rw [show wdE "InvalidHall" = "hall" by decide +kernel]
    exact h0 true false false false false false false false false false (by decide +kernel) (by decide +kernel) (by decide +kernel) (by decide +kernel) (by decide +kernel) (by decide +kernel) (by decide +kernel) (by decide +kernel) (by decide +kernel) (by decide +kernel) _ (join_one "hall" (by decide +kernel) (by decide +kernel))
  · rw [show wdE "InvalidRay" = "ray" by decide +kernel]
    exact h0 false true false false false false false false false false (by decide +kernel) (by decide +kernel) (by decide +kernel) (by decide +kernel) (by decide +kernel) (by decide +kernel) (by decide +kernel) (by decide +kernel) (by decide +kernel) (by decide +kernel) _ (join_one "ray" (by decide +kernel) (by decide +kernel))
  · rw [show wdE "InvalidWord" = "word" by decide +kernel]
    exact h0 false false true false false false false false false false (by decide +kernel) (by decide +kernel) (by decide +kernel) (by decide +kernel) (by decide +kernel) (by decide +kernel) (by decide +kernel) (by decide +kernel) (by decide +kernel) (by decide +kernel) _ (join_one "word" (by decide +kernel) (by decide +kernel))
  · rw [show wdE "InvalidWall" = "wall" by decide +kernel]
    exact h0 false false false true false false false false false false (by decide +kernel) (by decide +kernel) (by decide +kernel) (by decide +kernel) (by decide +kernel) (by decide +kernel) (by decide +kernel) (by decide +kernel) (by decide +kernel) (by decide +kernel) _ (join_one "wall" (by decide +kernel) (by decide +kernel))
  · rw [show wdE "InvalidPaper" = "paper" by decide +kernel]
    exact h0 false false false false true false false false false false (by decide +kernel) (by decide +kernel) (by decide +kernel) (by decide +kernel) (by decide +kernel) (by decide +kernel) (by decide +kernel) (by decide +kernel) (by decide +kernel) (by decide +kernel) _ (join_one "paper" (by decide +kernel) (by decide +kernel))
  · rw [show wdE "InvalidFacts" = "facts" by decide +kernel]
    exact h0 false false false false false true false false false false (by decide +kernel) (by decide +kernel) (by decide +kernel) (by decide +kernel) (by decide +kernel) (by decide +kernel) (by decide +kernel) (by decide +kernel) (by decide +kernel) (by decide +kernel) _ (join_one "facts" (by decide +kernel) (by decide +kernel))
  · rw [show wdE "InvalidDeed" = "deed" by decide +kernel]
    exact h0 false false false false false false true false false false (by decide +kernel) (by decide +kernel) (by decide +kernel) (by decide +kernel) (by decide +kernel) (by decide +kernel) (by decide +kernel) (by decide +kernel) (by decide +kernel) (by decide +kernel) _ (join_one "deed" (by decide +kernel) (by decide +kernel))
  · rw [show wdE "InvalidText" = "text" by decide +kernel]
    exact h0 false false false false false false false true false false (by decide +kernel) (by decide +kernel) (by decide +kernel) (by decide +kernel) (by decide +kernel) (by decide +kernel) (by decide +kernel) (by decide +kernel) (by decide +kernel) (by decide +kernel) _ (join_one "text" (by decide +kernel) (by decide +kernel))
  · rw [show wdE "Unlike" = "unlike" by decide +kernel]
    exact h0 false false false false false false false false true false (by decide +kernel) (by decide +kernel) (by decide +kernel) (by decide +kernel) (by decide +kernel) (by decide +kernel) (by decide +kernel) (by decide +kernel) (by decide +kernel) (by decide +kernel) _ (join_one "unlike" (by decide +kernel) (by decide +kernel))
  · rw [show wdE "NothingToUndo" = "undo" by decide +kernel]
    exact h0 false false false false false false false false false true (by decide +kernel) (by decide +kernel) (by decide +kernel) (by decide +kernel) (by decide +kernel) (by decide +kernel) (by decide +kernel) (by decide +kernel) (by decide +kernel) (by decide +kernel) _ (join_one "undo" (by decide +kernel) (by decide +kernel))

theorem E__law_named_error (gf : GF K mg) : Named P w K mg base T 1 "_law_named_error" ["InvalidHall", "InvalidRay", "InvalidWord", "InvalidWall", "InvalidPaper", "InvalidFacts", "InvalidDeed", "InvalidText", "Unlike", "NothingToUndo"] wdE := by
  obtain ⟨f, fd, F, hm, hb⟩ := gf.f__law_named_error.ex
  refine named_def (k := 0) (b := b__law_named_error) F S__law_named_error hm hb (fun a oe cn C cdv A outer s H E hc hC hz hf hp hot => ?_) (fun a cn S0 hc => ?_)
  · have nd : N__law_named_error.Nodup := S__law_named_error.nd
    exact (ds_cons (ds_set 1 nd (de_cel (da_cons (de_isE (de_var 0) gf.ec hp hz hf hc hC (by simp) gf.z_isinstance bt_isinstance) (da_cons (de_isE (de_var 0) gf.ec hp hz hf hc hC (by simp) gf.z_isinstance bt_isinstance) (da_cons (de_isE (de_var 0) gf.ec hp hz hf hc hC (by simp) gf.z_isinstance bt_isinstance) da_nil))))) (ds_cons (ds_set 1 nd (de_op op_cat s_addC.op (de_var 1) (de_lst (da_cons (de_isE (de_var 0) gf.ec hp hz hf hc hC (by simp) gf.z_isinstance bt_isinstance) (da_cons (de_isE (de_var 0) gf.ec hp hz hf hc hC (by simp) gf.z_isinstance bt_isinstance) (da_cons (de_isE (de_var 0) gf.ec hp hz hf hc hC (by simp) gf.z_isinstance bt_isinstance) da_nil)))))) (ds_cons (ds_set 1 nd (de_op op_cat s_addC.op (de_var 1) (de_lst (da_cons (de_isE (de_var 0) gf.ec hp hz hf hc hC (by simp) gf.z_isinstance bt_isinstance) (da_cons (de_isE (de_var 0) gf.ec hp hz hf hc hC (by simp) gf.z_isinstance bt_isinstance) (da_cons (de_isE (de_var 0) gf.ec hp hz hf hc hC (by simp) gf.z_isinstance bt_isinstance) da_nil)))))) (ds_cons (ds_expr (de_append (de_var 1) (de_isE (de_var 0) gf.ec hp hz hf hc hC (by simp) gf.z_isinstance bt_isinstance))) (ds_cons (ds_set 2 nd de_str) (ds_cons (ds_ret (de_join de_str (de_pick (i := 3) (j := 4) hot nd (de_split (de_var 2) de_str) (de_var 1) gf.z_zip (ok := by exact (show BlkOk N__law_named_error (defScope (top 30)) _ _ from blkOk_by (by decide +kernel)))))) ds_nil))))))
  · exact named_eval a cn S0 hc
def N__law_told : List Str := ["_law_call", "_law_e"]
theorem S__law_told : FnScope N__law_told ["_law_call"] (defScope (top 31)) := C8.fnScope_by (by decide +kernel)
def hE__law_told (c : Str) : D := .tuple [.none, .str (wdE c)]
def G__law_told := G_err ["InvalidHall", "InvalidRay", "InvalidWord", "InvalidWall", "InvalidPaper", "InvalidFacts", "InvalidDeed", "InvalidText", "Unlike", "NothingToUndo"] (fun d => .tuple [d, .str ""]) hE__law_told
def b__law_told (fl : Addr) (g : List D → M D) : BS := (sSeq (sTryR ["InvalidHall", "InvalidRay", "InvalidWord", "InvalidWall", "InvalidPaper", "InvalidFacts", "InvalidDeed", "InvalidText", "Unlike", "NothingToUndo"] 1 hE__law_told (sSeq (sRet (eTup (aCons (eCallV fl 0 g (eVar 0) aNil) (aCons (eC (.str "")) aNil)))) sNil)) sNil)
theorem hfs__law_told (a : Addr) (cn : Str) (env : Ev) (S : Store) (hi : 1 < env.length) : sSeq (sRet (eTup (aCons (eC .none) (aCons (eNamed a (wdE cn) (eVar 1)) aNil)))) sNil (env.set 1 (some (.adr a))) S = .ret (hE__law_told cn) S := by
  have e : (env.set 1 (some (D.adr a)))[1]? = some (some (.adr a)) := List.getElem?_set_self hi
  simp [sSeq, sRet, thenS, eTup, aCons, aNil, eNamed, eVar, eC, e, bd_ap, hE__law_told]
theorem hev__law_told (fl : Addr) (g : List D → M D) (ds : List D) (S0 : Store) (hd : ds.length = 0) (hne : G__law_told g ds S0 ≠ .no) : fnOf false N__law_told.length (b__law_told fl g) (.adr fl :: ds) S0 = G__law_told g ds S0 := by
  obtain rfl := List.length_eq_zero_iff.mp hd
  unfold G__law_told G_err at hne ⊢
  simp only [fnOf, b__law_told, sTryR, sSeq, sExpr, thenS, eCallV, eVar, aNil, aCons, eTup, sRet, eC, sNil, N__law_told]
  simp only [List.map_cons, List.map_nil, List.cons_append, List.nil_append, List.length_cons, List.length_nil, List.getElem?_cons_zero, Option.getD_some, ofO_some, pure_bd, isAdr, if_true, bd_ap, pure_ap, endF]
  cases eg : g [] S0 with
  | ok d S' => simp
  | err c S' =>
    rw [eg] at hne
    dsimp only at hne ⊢
    by_cases h : c ∈ (["InvalidHall", "InvalidRay", "InvalidWord", "InvalidWall", "InvalidPaper", "InvalidFacts", "InvalidDeed", "InvalidText", "Unlike", "NothingToUndo"] : List Str)
    · rw [if_pos h, if_pos ⟨h, by simp⟩]
      simp
    · rw [if_neg h] at hne
      exact absurd rfl hne
  | no => simp

theorem H__law_told (gf : GF K mg) {k : Nat} (hk : 1 ≤ k) : HFn P w K mg base T k "_law_told" 0 0 G__law_told := by
  obtain ⟨f, fd, F, hm, hb⟩ := gf.f__law_told.ex
  obtain ⟨CS, hCS⟩ := gf.c_AimError
  refine hfn_def (ι := Unit) (td := false) (b := fun _ => b__law_told) F S__law_told hm hb rfl (fun _ fl g cdv A outer s H E O0 _ lp lc c => ?_) (fun fl g ds S0 hd hne => ⟨(), ?_⟩)
  · exact (ds_cons (ds_tryR (i := 1) (fs := fun a cn => (sSeq (sRet (eTup (aCons (eC .none) (aCons (eNamed a (wdE cn) (eVar 1)) aNil)))) sNil)) (h := hE__law_told) c hCS (fun cn hc C hC => gf.ec.bas cn hc C CS hC hCS) (fun pn xe E1 c => (ds_cons (ds_ret (de_tup (da_cons (de_callV0 lp (lc pn xe) c (de_var 0) (by omega)) (da_cons de_str da_nil)))) ds_nil)) (fun a oe cn C pn hc hC hz hf => have hp : (a, oe) ∈ (a, oe) :: pn := List.mem_cons_self; have hr := roomH_mark (a := a) (c.room.mono (show 1 ≤ _ by omega)); (ds_cons (ds_ret (de_tup (da_cons de_non (da_cons (de_named (E__law_named_error gf) hr rfl hp hz hf hc hC (de_var 1)) da_nil)))) ds_nil)) (fun a cn env S hc hi => hfs__law_told a cn env S hi)) ds_nil)
  · exact hev__law_told fl g ds S0 hd hne
def N_as_text : List Str := ["hall", "high", "walls", "end", "lines", "place", "low", "top"]
theorem S_as_text : FnScope N_as_text ["hall"] (defScope (top 19)) := C8.fnScope_by (by decide +kernel)
def b_as_text (i : Nat) : BS := (sSeq (sAsg (.tup [(.name 1), (.name 2), (.name 3)]) (eVar 0)) (sSeq (sSet 4 (eLc [5, 6, 7] (iSeq (eVar 2)) (.tup [(.name 5), (.name 6), (.name 7)]) bYes (eJoined [(eC (.str "wall ")), (eFmt (eVar 5)), (eC (.str " ")), (eFmt (eVar 6)), (eC (.str " ")), (eFmt (eVar 7))]))) (sSeq (sRet (eS1 (fun a b => rd b >>= gJoin a) (eC (.str "\n")) (e2 (g2 gAdd) (e2 (g2 gAdd) (eLst (aCons (eJoined [(eC (.str "high ")), (eFmt (eVar 1))]) aNil)) (eVar 4)) (eLst (aCons (eJoined [(eC (.str "end ")), (eFmt (eVar 3))]) aNil))))) sNil)))
def r_as_text : List D → M D := fun ds => fnOf true N_as_text.length (b_as_text (fu0 ds)) ds
theorem F_as_text (gf : GF K mg) : Fn P w K mg base T 1 "as_text" 1 r_as_text := by
  obtain ⟨f, fd, F, hm, hb⟩ := gf.f_as_text.ex
  refine fn_def (ι := Nat) (td := true) (b := b_as_text) F S_as_text hm hb (fun i cdv A outer s H E _ c => ?_) (fun ds S0 _ _ => ⟨fu0 ds, rfl⟩)
  exact (ds_cons (ds_asg (de_var 0) (dg_tup c.calm (dgs_cons (dg_name 1 c.nd) (dgs_cons (dg_name 2 c.nd) (dgs_cons (dg_name 3 c.nd) dgs_nil))))) (ds_cons (ds_lc 4 [("place", 5), ("low", 6), ("top", 7)] c (di_seq (de_var 2)) (fun _ _ _ _ _ => (dg_tup c.calm (dgs_cons (dg_name 5 c.nd) (dgs_cons (dg_name 6 c.nd) (dgs_cons (dg_name 7 c.nd) dgs_nil))))) (fun _ _ _ _ _ _ => dts_nil) (fun _ _ _ _ _ _ => (de_joined (.cons de_str (.cons (de_fmt (de_var 5)) (.cons de_str (.cons (de_fmt (de_var 6)) (.cons de_str (.cons (de_fmt (de_var 7)) .nil)))))))) (ok := by exact (show BlkOk N_as_text (defScope (top 19)) _ _ from blkOk_by (by decide +kernel)))) (ds_cons (ds_ret (de_join de_str (de_op op_addZ s_add.op (de_op op_addZ s_add.op (de_lst (da_cons (de_joined (.cons de_str (.cons (de_fmt (de_var 1)) .nil))) da_nil)) (de_var 4)) (de_lst (da_cons (de_joined (.cons de_str (.cons (de_fmt (de_var 3)) .nil))) da_nil))))) ds_nil)))
def N_number_in : List Str := ["word", "sign"]
theorem S_number_in : FnScope N_number_in ["word"] (defScope (top 21)) := C8.fnScope_by (by decide +kernel)
def b_number_in (i : Nat) : BS := (sSeq (sIf (bOr (bNot (tB1 (eChain (g2 gLe) (g2 gLe) (eC (.int 1)) (eCB (c1 gLen) (aCons (eVar 0) aNil)) (eC (.int 2))))) (bNot (bTru (eCB (c1 gAll) (aCons (eLc [1] (iTxt (eVar 0)) (.name 1) bYes (e2 (g2 (gIn false)) (eVar 1) (eC (.str "0123456789")))) aNil))))) (sSeq (sRet (e1 (g1 gNeg) (eC (.int 1)))) sNil) sNil) (sSeq (sRet (eCB (c1 gIntS) (aCons (eVar 0) aNil))) sNil))
def r_number_in : List D → M D := fun ds => fnOf true N_number_in.length (b_number_in (fu0 ds)) ds
theorem F_number_in (gf : GF K mg) : Fn P w K mg base T 1 "number_in" 1 r_number_in := by
  obtain ⟨f, fd, F, hm, hb⟩ := gf.f_number_in.ex
  refine fn_def (ι := Nat) (td := true) (b := b_number_in) F S_number_in hm hb (fun i cdv A outer s H E _ c => ?_) (fun ds S0 _ _ => ⟨fu0 ds, rfl⟩)
  exact (ds_cons (ds_if (dt_w (dw_or (dt_not (dt_chain op_le op_le s_cmp.op s_cmp.op de_int (de_callB call_len d_len gf.z_len bt_len (da_cons (de_var 0) da_nil)) de_int)) (dw_or1 (dt_not (dt_tru (de_callB (cr_all c.calm) d_all gf.z_all bt_all (da_cons (de_lc [("sign", 1)] c (di_txt (de_var 0)) (fun _ _ _ _ _ => (dg_name 1 c.nd)) (fun _ _ _ _ _ _ => dts_nil) (fun _ _ _ _ _ c => (de_cmp (op_inZ c.hu) s_in.op (de_var 1) de_str (by with_unfolding_all rfl))) (ok := by exact (show BlkOk N_number_in (defScope (top 21)) _ _ from blkOk_by (by decide +kernel)))) da_nil))))))) (ds_cons (ds_ret (de_un un_neg s_neg.op de_int)) ds_nil) ds_nil) (ds_cons (ds_ret (de_callTy call_int_str d_intS gf.z_int bt_int (da_cons (de_var 0) da_nil))) ds_nil))
def blk_58_11 : Scope := { kind := .function, names := [(".0", .local), ("line", .local), ("tuple", .globalImplicit)], isGenerator := false, isCoroutine := false, more := [] }
def N_read_hall : List Str := ["value", "rows", "found", "line", "word"]
theorem S_read_hall : FnScope N_read_hall ["value"] (defScope (top 22)) := C8.fnScope_by (by decide +kernel)
def b_read_hall (i : Nat) : BS := (sSeq (sIf (bNot (bTru (eIsi "str" (eVar 0)))) (sSeq (sRaise "InvalidText") sNil) sNil) (sSeq (sSet 1 (eLc [3] (iSeq (eS1 gSplit (eVar 0) (eC (.str "\n")))) (.name 3) bYes (eCB (c1 gTuple) (aCons (eLc [4] (iSeq (eSl (eS1 gSplit (eVar 3) (eC (.str " "))) (oSome (eC (.int 1))) oNone)) (.name 4) bYes (eCall 1 r_number_in (aCons (eVar 4) aNil))) aNil)))) (sSeq (sIf (bOr (tB1 (e2 (g2 gLt) (eCB (c1 gLen) (aCons (eVar 1) aNil)) (eC (.int 2)))) (bOr (tB1 (e2 (g2 gEq) (e2 (g2 gIx) (eVar 1) (eC (.int 0))) (eTup aNil))) (tB1 (e2 (g2 gEq) (e2 (g2 gIx) (eVar 1) (e1 (g1 gNeg) (eC (.int 1)))) (eTup aNil))))) (sSeq (sRaise "InvalidText") sNil) sNil) (sSeq (sSet 2 (eTup (aCons (e2 (g2 gIx) (e2 (g2 gIx) (eVar 1) (eC (.int 0))) (eC (.int 0))) (aCons (eCB (c1 gTuple) (aCons (eSl (eVar 1) (oSome (eC (.int 1))) (oSome (e1 (g1 gNeg) (eC (.int 1))))) aNil)) (aCons (e2 (g2 gIx) (e2 (g2 gIx) (eVar 1) (e1 (g1 gNeg) (eC (.int 1)))) (eC (.int 0))) aNil))))) (sSeq (sIf (bOr (bNot (bTru (eCall 1 r_is_hall (aCons (eVar 2) aNil)))) (tB1 (e2 (g2 gNe) (eCall 1 r_as_text (aCons (eVar 2) aNil)) (eVar 0)))) (sSeq (sRaise "InvalidText") sNil) sNil) (sSeq (sRet (eVar 2)) sNil))))))
def r_read_hall : List D → M D := fun ds => fnOf true N_read_hall.length (b_read_hall (fu0 ds)) ds
theorem F_read_hall (gf : GF K mg) : Fn P w K mg base T 4 "read_hall" 1 r_read_hall := by
  obtain ⟨f, fd, F, hm, hb⟩ := gf.f_read_hall.ex
  refine fn_def (ι := Nat) (td := true) (b := b_read_hall) F S_read_hall hm hb (fun i cdv A outer s H E _ c => ?_) (fun ds S0 _ _ => ⟨fu0 ds, rfl⟩)
  exact (ds_cons (ds_if (dt_not (dt_tru (de_isi (de_var 0) gf.z_isinstance bt_isinstance gf.z_str bt_str))) (ds_cons (ds_raise c gf.x_InvalidText) ds_nil) ds_nil) (ds_cons (ds_lc 1 [("line", 3)] c (di_seq (de_split (de_var 0) de_str)) (fun _ _ _ _ _ => (dg_name 3 c.nd)) (fun _ _ _ _ _ _ => dts_nil) (fun _ _ _ _ _ c => (de_callTy call_tuple_of d_tuple gf.z_tuple bt_tuple (da_cons (de_lc [("word", 4)] c (di_seq (de_sl (de_split (de_var 3) de_str) (do_some de_int) do_none)) (fun _ _ _ _ _ => (dg_name 4 c.nd)) (fun _ _ _ _ _ _ => dts_nil) (fun _ _ _ _ _ c => (de_call (F_number_in gf) c (da_cons (de_var 4) da_nil) (by omega))) (ok := by exact (show BlkOk N_read_hall (relS blk_58_11 (defScope (top 22))) _ _ from blkOk_by (by decide +kernel)))) da_nil))) (ok := by exact (show BlkOk N_read_hall (defScope (top 22)) _ _ from blkOk_by (by decide +kernel)))) (ds_cons (ds_if (dt_w (dw_or (dt_cmp op_lt s_cmp.op (de_callB call_len d_len gf.z_len bt_len (da_cons (de_var 1) da_nil)) de_int (nomark _)) (dw_or (dt_cmp (op_eqD c.hu64) s_eq.op (de_ix ix_seq s_ix.op (de_var 1) de_int) (de_tup da_nil) (nomark _)) (dw_or1 (dt_cmp (op_eqD c.hu64) s_eq.op (de_ix ix_seq s_ix.op (de_var 1) (de_un un_neg s_neg.op de_int)) (de_tup da_nil) (nomark _)))))) (ds_cons (ds_raise c gf.x_InvalidText) ds_nil) ds_nil) (ds_cons (ds_set 2 c.nd (de_tup (da_cons (de_ix ix_seq s_ix.op (de_ix ix_seq s_ix.op (de_var 1) de_int) de_int) (da_cons (de_callTy call_tuple_of d_tuple gf.z_tuple bt_tuple (da_cons (de_sl (de_var 1) (do_some de_int) (do_some (de_un un_neg s_neg.op de_int))) da_nil)) (da_cons (de_ix ix_seq s_ix.op (de_ix ix_seq s_ix.op (de_var 1) (de_un un_neg s_neg.op de_int)) de_int) da_nil))))) (ds_cons (ds_if (dt_w (dw_or (dt_not (dt_tru (de_call (F_is_hall gf) c (da_cons (de_var 2) da_nil) (by omega)))) (dw_or1 (dt_cmp (op_neD c.hu64) s_ne.op (de_call (F_as_text gf) c (da_cons (de_var 2) da_nil) (by omega)) (de_var 0) (nomark _))))) (ds_cons (ds_raise c gf.x_InvalidText) ds_nil) ds_nil) (ds_cons (ds_ret (de_var 2)) ds_nil))))))
def N_need_hall : List Str := ["hall"]
theorem S_need_hall : FnScope N_need_hall ["hall"] (defScope (top 17)) := C8.fnScope_by (by decide +kernel)
def b_need_hall (i : Nat) : BS := (sSeq (sIf (bNot (bTru (eCall 1 r_is_hall (aCons (eVar 0) aNil)))) (sSeq (sRaise "InvalidHall") sNil) sNil) sNil)
def r_need_hall : List D → M D := fun ds => fnOf true N_need_hall.length (b_need_hall (fu0 ds)) ds
theorem F_need_hall (gf : GF K mg) : Fn P w K mg base T 4 "need_hall" 1 r_need_hall := by
  obtain ⟨f, fd, F, hm, hb⟩ := gf.f_need_hall.ex
  refine fn_def (ι := Nat) (td := true) (b := b_need_hall) F S_need_hall hm hb (fun i cdv A outer s H E _ c => ?_) (fun ds S0 _ _ => ⟨fu0 ds, rfl⟩)
  exact (ds_cons (ds_if (dt_not (dt_tru (de_call (F_is_hall gf) c (da_cons (de_var 0) da_nil) (by omega)))) (ds_cons (ds_raise c gf.x_InvalidHall) ds_nil) ds_nil) ds_nil)
def N_hall_text : List Str := ["hall"]
theorem S_hall_text : FnScope N_hall_text ["hall"] (defScope (top 20)) := C8.fnScope_by (by decide +kernel)
def b_hall_text (i : Nat) : BS := (sSeq (sExpr (eCall 1 r_need_hall (aCons (eVar 0) aNil))) (sSeq (sRet (eCall 1 r_as_text (aCons (eVar 0) aNil))) sNil))
def r_hall_text : List D → M D := fun ds => fnOf true N_hall_text.length (b_hall_text (fu0 ds)) ds
theorem F_hall_text (gf : GF K mg) : Fn P w K mg base T 5 "hall_text" 1 r_hall_text := by
  obtain ⟨f, fd, F, hm, hb⟩ := gf.f_hall_text.ex
  refine fn_def (ι := Nat) (td := true) (b := b_hall_text) F S_hall_text hm hb (fun i cdv A outer s H E _ c => ?_) (fun ds S0 _ _ => ⟨fu0 ds, rfl⟩)
  exact (ds_cons (ds_expr (de_call (F_need_hall gf) c (da_cons (de_var 0) da_nil) (by omega))) (ds_cons (ds_ret (de_call (F_as_text gf) c (da_cons (de_var 0) da_nil) (by omega))) ds_nil))
def N_law : List Str := ["_law_script", "_law_k", "_law_bag_here", "_law_hall_so", "_law_text_here", "_law_turn", "_law_bent_here", "_law_due", "_law_odd", "_law_some"]
theorem S_law : FnScope N_law ["_law_script"] (defScope (top 36)) := C8.fnScope_by (by decide +kernel)
def b_law (i : Nat) : BS := (sSeq (sFor (iRg (eC (.int 8))) (.name 1) (sSeq (sSet 2 (eCall 2 r__law_bag (aCons (eVar 0) (aCons (eVar 1) aNil)))) (sSeq (sSet 3 (eCall 2 r__law_hall (aCons (eVar 2) (aCons (eC (.int 3)) aNil)))) (sSeq (sSet 4 (eCall 1 r__law_text (aCons (eVar 3) aNil))) (sSeq (sIf (bOr (tB1 (e2 (g2 gNe) (eCall 1 r_hall_text (aCons (eVar 3) aNil)) (eVar 4))) (tB1 (e2 (g2 gNe) (eCall 1 r_read_hall (aCons (eVar 4) aNil)) (eVar 3)))) (sSeq (sRet (eC (.bool false))) sNil) sNil) (sSeq (sFor (iRg (eC (.int 14))) (.name 5) (sSeq (sSet 6 (eCall 2 r__law_bent (aCons (eVar 2) (aCons (eVar 4) aNil)))) (sSeq (sSet 7 (eCall 1 r__law_read (aCons (eVar 6) aNil))) (sSeq (sIf (tB1 (e2 (g2 gNe) (eHof 0 1 [6] (eCall 1 r_read_hall (aCons (eVar 0) aNil)) (G__law_told) aNil) (eIf (tB1 (e2 (g2 (gIs false)) (eVar 7) (eC .none))) (eTup (aCons (eC .none) (aCons (eC (.str "text")) aNil))) (eTup (aCons (eVar 7) (aCons (eC (.str "")) aNil)))))) (sSeq (sRet (eC (.bool false))) sNil) sNil) sNil)))) (sSeq (sFor (iSeq (eLst (aCons (eC .none) (aCons (eC (.int 5)) (aCons (eC (.str "")) (aCons (eC (.str "high 5")) (aCons (eC (.str "end 5")) (aCons (eTup (aCons (eVar 4) aNil)) (aCons (e2 (g2 gAdd) (eVar 4) (eC (.str "\n"))) (aCons (e2 (g2 gAdd) (eC (.str "\n")) (eVar 4)) (aCons (e2 (g2 gAdd) (eC (.str " ")) (eVar 4)) (aCons (eC (.str "high\nend")) aNil)))))))))))) (.name 8) (sSeq (sIf (tB1 (e2 (g2 gNe) (eHof 0 1 [8] (eCall 1 r_read_hall (aCons (eVar 0) aNil)) (G__law_told) aNil) (eTup (aCons (eC .none) (aCons (eC (.str "text")) aNil))))) (sSeq (sRet (eC (.bool false))) sNil) sNil) sNil)) (sSeq (sIf (tB1 (e2 (g2 gNe) (eHof 0 1 [3] (eCall 1 r_hall_text (aCons (eCB (c1 gList) (aCons (eVar 0) aNil)) aNil)) (G__law_told) aNil) (eTup (aCons (eC .none) (aCons (eC (.str "hall")) aNil))))) (sSeq (sRet (eC (.bool false))) sNil) sNil) sNil)))))))) (sSeq (sSet 9 (eLst (aCons (eC (.str "high 05\nend 5")) (aCons (eC (.str "high 5\nend 6")) (aCons (eC (.str "high 5\nwall 2 3 1\nend 5")) (aCons (eC (.str "high 5\nwall 2 1\nend 5")) aNil)))))) (sSeq (sSet 9 (e2 (g2 gAdd) (eVar 9) (eLst (aCons (eC (.str "high 5\nwall 3 0 1\nwall 2 0 1\nend 5")) (aCons (eC (.str "high 61\nend 5")) (aCons (eC (.str "high 5\nend 5 ")) (aCons (eC (.str "tall 5\nend 5")) aNil))))))) (sSeq (sFor (iSeq (e2 (g2 gAdd) (eVar 9) (eLst (aCons (eC (.str "high 5 5\nend 5")) (aCons (e2 (g2 gAdd) (e2 (g2 gAdd) (eC (.str "high 9")) (e2 (g2 gMulStr) (eC (.str "\nwall 1 0 0")) (eC (.int 4)))) (eC (.str "\nend 9"))) aNil))))) (.name 4) (sSeq (sIf (tB1 (e2 (g2 gNe) (eHof 0 1 [4] (eCall 1 r_read_hall (aCons (eVar 0) aNil)) (G__law_told) aNil) (eTup (aCons (eC .none) (aCons (eC (.str "text")) aNil))))) (sSeq (sRet (eC (.bool false))) sNil) sNil) sNil)) (sSeq (sRet (eAnd (e2 (g2 gEq) (eCall 1 r_read_hall (aCons (eC (.str "high 5\nend 5")) aNil)) (eTup (aCons (eC (.int 5)) (aCons (eTup aNil) (aCons (eC (.int 5)) aNil))))) (e2 (g2 gEq) (eCall 1 r_read_hall (aCons (eC (.str "high 9\nwall 8 0 9\nend 9")) aNil)) (eTup (aCons (eC (.int 9)) (aCons (eTup (aCons (eTup (aCons (eC (.int 8)) (aCons (eC (.int 0)) (aCons (eC (.int 9)) aNil)))) aNil)) (aCons (eC (.int 9)) aNil))))))) sNil)))))
def r_law : List D → M D := fun ds => fnOf true N_law.length (b_law (fu0 ds)) ds
theorem F_law (gf : GF K mg) {cc Pt : Addr} {f : Addr} {fd : FuncData} (F : L2.Fun K "law" "law" (top 36) f fd) (hcd : fd.code = .ref cc) (TB : LamX.TabB base mg cc Pt) (hT : (Pt, (("law" : Str) ++ ".<locals>.") ++ "<lambda>") ∈ T.tabs) (hU : ∀ p ∈ T.tabs, p.1 = Pt → p.2 = (("law" : Str) ++ ".<locals>.") ++ "<lambda>") : FnOk P w K mg base (L2N.CX P w) 8 f fd ["_law_script"] (spD K mg T 1 r_law) := by
  refine fn_okd (ι := Nat) (td := true) (b := b_law) F S_law (fun i cdv A outer s H E e c => ?_) (fun ds S0 _ _ => ⟨fu0 ds, rfl⟩)
  obtain rfl : cdv = .ref cc := e.symm.trans hcd
  exact (ds_cons (ds_for c (di_range de_int gf.z_range) (dg_name 1 c.nd) (ds_cons (ds_set 2 c.nd (de_call (F__law_bag gf) c (da_cons (de_var 0) (da_cons (de_var 1) da_nil)) (by omega))) (ds_cons (ds_set 3 c.nd (de_call (F__law_hall gf) c (da_cons (de_var 2) (da_cons de_int da_nil)) (by omega))) (ds_cons (ds_set 4 c.nd (de_call (F__law_text gf) c (da_cons (de_var 3) da_nil) (by omega))) (ds_cons (ds_if (dt_w (dw_or (dt_cmp (op_neD c.hu64) s_ne.op (de_call (F_hall_text gf) c (da_cons (de_var 3) da_nil) (by omega)) (de_var 4) (nomark _)) (dw_or1 (dt_cmp (op_neD c.hu64) s_ne.op (de_call (F_read_hall gf) c (da_cons (de_var 4) da_nil) (by omega)) (de_var 3) (nomark _))))) (ds_cons (ds_ret de_bl) ds_nil) ds_nil) (ds_cons (ds_for c (di_range de_int gf.z_range) (dg_name 5 c.nd) (ds_cons (ds_set 6 c.nd (de_call (F__law_bent gf) c (da_cons (de_var 2) (da_cons (de_var 4) da_nil)) (by omega))) (ds_cons (ds_set 7 c.nd (de_call (F__law_read gf) c (da_cons (de_var 6) da_nil) (by omega))) (ds_cons (ds_if (dt_cmp (op_neD c.hu64) s_ne.op (de_hof (k := 5) (N := ["_law_bent_here"]) (ps := []) (fr := ["_law_bent_here"]) (js := [6]) (fb := (eCall 1 r_read_hall (aCons (eVar 0) aNil))) (H__law_told gf (by omega)) c rfl TB rfl hT hU (NdefX.nscope_by (by decide +kernel)) (NdefX.ndef_free (sc := (defScope (top 36))) (fr := ["_law_bent_here"]) (by decide +kernel)) (NdefX.ndef_fr (sc := (defScope (top 36))) (fr := ["_law_bent_here"]) (by decide +kernel)) rfl (fun _ _ _ _ _ us h => by match us, h with | [], _ => rfl) (fun _ _ _ _ _ _ _ c => (de_call (F_read_hall gf) c (da_cons (de_var 0) da_nil) (by omega))) da_nil) (de_if (dt_cmp op_isZ s_is.op (de_var 7) de_non (nomark _)) (de_tup (da_cons de_non (da_cons de_str da_nil))) (de_tup (da_cons (de_var 7) (da_cons de_str da_nil)))) (nomark _)) (ds_cons (ds_ret de_bl) ds_nil) ds_nil) ds_nil)))) (ds_cons (ds_for c (di_seq (de_lst (da_cons de_non (da_cons de_int (da_cons de_str (da_cons de_str (da_cons de_str (da_cons (de_tup (da_cons (de_var 4) da_nil)) (da_cons (de_op op_addZ s_add.op (de_var 4) de_str) (da_cons (de_op op_addZ s_add.op de_str (de_var 4)) (da_cons (de_op op_addZ s_add.op de_str (de_var 4)) (da_cons de_str da_nil)))))))))))) (dg_name 8 c.nd) (ds_cons (ds_if (dt_cmp (op_neD c.hu64) s_ne.op (de_hof (k := 5) (N := ["_law_odd"]) (ps := []) (fr := ["_law_odd"]) (js := [8]) (fb := (eCall 1 r_read_hall (aCons (eVar 0) aNil))) (H__law_told gf (by omega)) c rfl TB rfl hT hU (NdefX.nscope_by (by decide +kernel)) (NdefX.ndef_free (sc := (defScope (top 36))) (fr := ["_law_odd"]) (by decide +kernel)) (NdefX.ndef_fr (sc := (defScope (top 36))) (fr := ["_law_odd"]) (by decide +kernel)) rfl (fun _ _ _ _ _ us h => by match us, h with | [], _ => rfl) (fun _ _ _ _ _ _ _ c => (de_call (F_read_hall gf) c (da_cons (de_var 0) da_nil) (by omega))) da_nil) (de_tup (da_cons de_non (da_cons de_str da_nil))) (nomark _)) (ds_cons (ds_ret de_bl) ds_nil) ds_nil) ds_nil)) (ds_cons (ds_if (dt_cmp (op_neD c.hu64) s_ne.op (de_hof (k := 5) (N := ["_law_hall_so"]) (ps := []) (fr := ["_law_hall_so"]) (js := [3]) (fb := (eCall 1 r_hall_text (aCons (eCB (c1 gList) (aCons (eVar 0) aNil)) aNil))) (H__law_told gf (by omega)) c rfl TB rfl hT hU (NdefX.nscope_by (by decide +kernel)) (NdefX.ndef_free (sc := (defScope (top 36))) (fr := ["_law_hall_so"]) (by decide +kernel)) (NdefX.ndef_fr (sc := (defScope (top 36))) (fr := ["_law_hall_so"]) (by decide +kernel)) rfl (fun _ _ _ _ _ us h => by match us, h with | [], _ => rfl) (fun _ _ _ _ _ _ _ c => (de_call (F_hall_text gf) c (da_cons (de_callTy call_list_of d_list gf.z_list bt_list (da_cons (de_var 0) da_nil)) da_nil) (by omega))) da_nil) (de_tup (da_cons de_non (da_cons de_str da_nil))) (nomark _)) (ds_cons (ds_ret de_bl) ds_nil) ds_nil) ds_nil)))))))) (ds_cons (ds_set 9 c.nd (de_lst (da_cons de_str (da_cons de_str (da_cons de_str (da_cons de_str da_nil)))))) (ds_cons (ds_set 9 c.nd (de_op op_addZ s_add.op (de_var 9) (de_lst (da_cons de_str (da_cons de_str (da_cons de_str (da_cons de_str da_nil))))))) (ds_cons (ds_for c (di_seq (de_op op_addZ s_add.op (de_var 9) (de_lst (da_cons de_str (da_cons (de_op op_addZ s_add.op (de_op op_addZ s_add.op de_str (de_op op_mulStr s_mulStr.op de_str de_int)) de_str) da_nil))))) (dg_name 4 c.nd) (ds_cons (ds_if (dt_cmp (op_neD c.hu64) s_ne.op (de_hof (k := 5) (N := ["_law_text_here"]) (ps := []) (fr := ["_law_text_here"]) (js := [4]) (fb := (eCall 1 r_read_hall (aCons (eVar 0) aNil))) (H__law_told gf (by omega)) c rfl TB rfl hT hU (NdefX.nscope_by (by decide +kernel)) (NdefX.ndef_free (sc := (defScope (top 36))) (fr := ["_law_text_here"]) (by decide +kernel)) (NdefX.ndef_fr (sc := (defScope (top 36))) (fr := ["_law_text_here"]) (by decide +kernel)) rfl (fun _ _ _ _ _ us h => by match us, h with | [], _ => rfl) (fun _ _ _ _ _ _ _ c => (de_call (F_read_hall gf) c (da_cons (de_var 0) da_nil) (by omega))) da_nil) (de_tup (da_cons de_non (da_cons de_str da_nil))) (nomark _)) (ds_cons (ds_ret de_bl) ds_nil) ds_nil) ds_nil)) (ds_cons (ds_ret (de_and (de_cmp (op_eqD c.hu64) s_eq.op (de_call (F_read_hall gf) c (da_cons de_str da_nil) (by omega)) (de_tup (da_cons de_int (da_cons (de_tup da_nil) (da_cons de_int da_nil)))) (nomark _)) (de_one (de_cmp (op_eqD c.hu64) s_eq.op (de_call (F_read_hall gf) c (da_cons de_str da_nil) (by omega)) (de_tup (da_cons de_int (da_cons (de_tup (da_cons (de_tup (da_cons de_int (da_cons de_int (da_cons de_int da_nil)))) da_nil)) (da_cons de_int da_nil)))) (nomark _))))) ds_nil)))))
end
end Z
end
section
set_option maxHeartbeats 4000000
namespace Z
open PySem PySem.Spec L2
theorem m_is_whole {n : Nat} {v : D} {lo hi : Int} (h : okD n v = true) : r_is_whole [v, .int lo, .int hi] = pure (.bool (isWhole v lo hi)) := by
  refine W_eq fun S => ?_
  unfold r_is_whole
  rw [W_fnT]
  simp [b_is_whole, N_is_whole, rd_ok' h, isi_int h, isi_bool h]
  cases v with
  | int i =>
    by_cases h1 : lo ≤ i <;> by_cases h2 : i ≤ hi <;> simp [isTy, isWhole, h1, h2]
  | _ => simp [isTy, isWhole]
theorem m_is_row {n : Nat} {v : D} {lo hi : Int} (h : okD n v = true) : r_is_row [v, .int lo, .int hi] = pure (.bool (isRow v lo hi)) := by
  refine W_eq fun S => ?_
  unfold r_is_row
  rw [W_fnT]
  simp [b_is_row, N_is_row, rd_ok' h, isi_tuple h]
  cases v with
  | tuple xs =>
    by_cases h1 : lo ≤ (xs.length : Int) <;> by_cases h2 : (xs.length : Int) ≤ hi <;> simp [isTy, isRow, h1, h2]
  | _ => simp [isTy, isRow]
/-! ### walls, halls -/
def isWall (high e : Int) (v : D) : Bool := match v with
  | .tuple [a, b, c] => isWhole a 1 (e - 1) && isWhole c 0 high && (match c with
    | .int ci => isWhole b 0 ci
    | _ => false)
  | _ => false
theorem row3 {v : D} (h : isRow v 3 3 = true) : ∃ a b c, v = .tuple [a, b, c] := by
  cases v with
  | tuple xs =>
    simp [isRow] at h
    match xs, h with
    | [], h => simp at h
    | [_], h => simp at h
    | [_, _], h => simp at h
    | [a, b, c], _ => exact ⟨a, b, c, rfl⟩
    | _ :: _ :: _ :: _ :: _, h => simp at h; omega
  | _ => simp [isRow] at h
theorem m_is_wall {n : Nat} {high e : Int} {v : D} (h : okD (n + 1) v = true) : r_is_wall [.int high, .int e, v] = pure (.bool (isWall high e v)) := by
  refine W_eq fun S => ?_
  unfold r_is_wall
  rw [W_fnT]
  simp [b_is_wall, N_is_wall, m_is_row h]
  cases hr : isRow v 3 3 with
  | false =>
    have hw : isWall high e v = false := by
      unfold isWall
      split
      · simp [isRow] at hr
      · rfl
    simp [hw]
  | true =>
    obtain ⟨a, b, c, rfl⟩ := row3 hr
    simp only [okD_tuple, okDs_cons', Bool.and_eq_true] at h
    obtain ⟨ha, hb, hc, -⟩ := h
    simp [at0, at1, at2, m_is_whole ha, m_is_whole hb, m_is_whole hc, isWall]
    cases h1 : isWhole a 1 (e - 1) <;> simp
    cases h2 : isWhole c 0 high <;> simp
    cases c with
    | int ci => simp [m_is_whole hb]
    | _ => simp [isWhole] at h2
/-- the first place -/
def fst0 (v : D) : Int := match v with
  | .tuple (.int i :: _) => i
  | _ => 0
def incr : List D → Bool
  | a :: b :: r => decide (fst0 a < fst0 b) && incr (b :: r)
  | _ => true
def isHall (v : D) : Bool := match v with
  | .tuple [.int h, .tuple ws, .int e] => decide (1 ≤ h) && decide (h ≤ 60) && decide (1 ≤ e) && decide (e ≤ h) && decide (ws.length ≤ 3) && ws.all (isWall h e) && incr ws
  | _ => false
theorem wall_fst {h e : Int} {v : D} (w : isWall h e v = true) : ∃ i b c, v = .tuple [.int i, b, c] ∧ 1 ≤ i ∧ i ≤ e - 1 ∧ fst0 v = i := by
  unfold isWall at w
  split at w
  · rename_i a b c
    cases a with
    | int i =>
      simp [isWhole] at w
      exact ⟨i, b, c, rfl, by omega, by omega, rfl⟩
    | _ => simp [isWhole] at w
  · cases w
theorem incr_pairs : ∀ ws : List D, (pairDs ws (ws.drop 1)).all (fun d => match d with
    | .tuple [a, b] => decide (fst0 a < fst0 b)
    | _ => false) = incr ws
  | [] => rfl
  | [a] => rfl
  | a :: b :: r => by
    have := incr_pairs (b :: r)
    simp only [List.drop_one, List.tail_cons] at this ⊢
    rw [pairDs, incr, List.all_cons, this]
theorem pair_mem {xs ys : List D} {d : D} (h : d ∈ pairDs xs ys) : ∃ x y, x ∈ xs ∧ y ∈ ys ∧ d = .tuple [x, y] := by
  obtain ⟨i, hi⟩ := List.mem_iff_getElem?.mp h
  obtain ⟨x, y, h1, h2, h3⟩ := pairDs_get hi
  exact ⟨x, y, List.mem_of_getElem? h1, List.mem_of_getElem? h2, h3⟩
theorem m_is_hall {n : Nat} {v : D} (h : okD (n + 3) v = true) : r_is_hall [v] = pure (.bool (isHall v)) := by
  refine W_eq fun S => ?_
  unfold r_is_hall
  rw [W_fnT]
  simp [b_is_hall, N_is_hall, m_is_row h]
  cases hr : isRow v 3 3 with
  | false =>
    have hw : isHall v = false := by
      unfold isHall
      split
      · simp [isRow] at hr
      · rfl
    simp [hw]
  | true =>
    obtain ⟨a, b, c, rfl⟩ := row3 hr
    simp only [okD_tuple, okDs_cons', Bool.and_eq_true] at h
    obtain ⟨ha, hb, hc, -⟩ := h
    simp [at0, at1, at2, m_is_whole ha, m_is_whole hc]
    cases h1 : isWhole a 1 60 with
    | false =>
      have hw : isHall (.tuple [a, b, c]) = false := by
        unfold isHall
        split
        · rename_i e
          simp at e
          simp [e.1, isWhole] at h1
          simp
          intro h2 h3
          omega
        · rfl
      simp [hw]
    | true =>
      cases a with
      | int hh =>
        simp [m_is_whole hc]
        cases h2 : isWhole c 1 hh with
        | false =>
          have hw : isHall (.tuple [.int hh, b, c]) = false := by
            unfold isHall
            split
            · rename_i e
              simp at e
              simp [e.2.2, e.1, isWhole] at h2
              simp
              intro h3 h4 h5 h6
              omega
            · rfl
          simp [hw]
        | true =>
          cases c with
          | int e =>
            simp [asg, asgs, m_is_row hb]
            cases h3 : isRow b 0 3 with
            | false =>
              have hw : isHall (.tuple [.int hh, b, .int e]) = false := by
                unfold isHall
                split
                · rename_i e
                  simp at e
                  simp [e.2.1, isRow] at h3
                  simp
                  intro h3 h4 h5 h6
                  omega
                · rfl
              simp [hw]
            | true =>
              cases b with
              | tuple ws =>
                simp only [okD_tuple] at hb
                have l3 : ws.length ≤ 3 := by simp [isRow] at h3; omega
                have e1 := lc_map (t := .name 4) (f := eCall 3 r_is_wall (aCons (eVar 1) (aCons (eVar 3) (aCons (eVar 4) aNil)))) (env := wipeE [some (.tuple [.int hh, .tuple ws, .int e]), some (.int hh), some (.tuple ws), some (.int e), none, none, none] [4]) (p := ⟨ws, fun _ => true⟩)
                  (fun d => [some (.tuple [.int hh, .tuple ws, .int e]), some (.int hh), some (.tuple ws), some (.int e), some d, none, none]) (fun d => .bool (isWall hh e d)) (fun _ => rfl) (fun d _ S => by simp [asg, wipeE]) (fun d hd => by simp [m_is_wall (okDs_mem hb d hd)]) (by simp; omega)
                simp [e1, gAll_map]
                have b1 : 1 ≤ hh ∧ hh ≤ 60 := by simpa [isWhole] using h1
                have b2 : 1 ≤ e ∧ e ≤ hh := by simpa [isWhole] using h2
                by_cases hall : ∀ x ∈ ws, isWall hh e x = true
                · rw [if_pos hall]
                  have e2 := lc_map (t := .tup [.name 5, .name 6]) (f := e2 (g2 gLt) (e2 (g2 gIx) (eVar 5) (eC (.int 0))) (e2 (g2 gIx) (eVar 6) (eC (.int 0)))) (env := wipeE [some (.tuple [.int hh, .tuple ws, .int e]), some (.int hh), some (.tuple ws), some (.int e), none, none, none] [5, 6]) (p := ⟨pairDs ws (ws.drop 1), fun _ => true⟩)
                    (fun d => match d with
                      | .tuple [x, y] => [some (.tuple [.int hh, .tuple ws, .int e]), some (.int hh), some (.tuple ws), some (.int e), none, some x, some y]
                      | _ => []) (fun d => .bool (match d with
                      | .tuple [a, b] => decide (fst0 a < fst0 b)
                      | _ => false)) (fun _ => rfl) (fun d hd S => by
                        obtain ⟨x, y, _, _, rfl⟩ := pair_mem hd
                        simp [asg, asgs, wipeE]) (fun d hd => by
                        obtain ⟨x, y, hx, hy, rfl⟩ := pair_mem hd
                        obtain ⟨i, p, q, rfl, _, _, ei⟩ := wall_fst (hall x hx)
                        obtain ⟨j, p', q', rfl, _, _, ej⟩ := wall_fst (hall y (List.mem_of_mem_drop hy))
                        simp [at0, ei, ej]) (by
                        have : (pairDs ws (ws.drop 1)).length ≤ ws.length := by
                          have : ∀ xs ys : List D, (pairDs xs ys).length ≤ xs.length := by
                            intro xs
                            induction xs with
                            | nil => intro ys; simp [pairDs]
                            | cons x xs ih =>
                              intro ys
                              cases ys with
                              | nil => simp [pairDs]
                              | cons y ys => simp [pairDs]; exact ih ys
                          exact this _ _
                        show (pairDs ws (ws.drop 1)).length ≤ 1000000
                        omega)
                  rw [cut1, e2]
                  simp only [W_pure]
                  rw [gAll_map, incr_pairs]
                  have hw : isHall (.tuple [.int hh, .tuple ws, .int e]) = incr ws := by
                    have : ws.all (isWall hh e) = true := List.all_eq_true.mpr hall
                    simp [isHall, b1, b2, l3, this]
                  simp [hw]
                · rw [if_neg hall]
                  have : ws.all (isWall hh e) = false := by
                    rw [Bool.eq_false_iff]
                    exact fun z => hall (List.all_eq_true.mp z)
                  simp [isHall, this]
              | _ => simp [isRow] at h3
          | _ => simp [isWhole] at h2
      | _ => simp [isWhole] at h1
/-- one wall behind the place last -/
def goodStep (h e last : Int) (w : D) : Option Int := match w with
  | .tuple [.int a, .int b, c] => if last + 1 ≤ a ∧ a ≤ e - 1 ∧ 0 ≤ b ∧ b ≤ h ∧ isWhole c b h = true then some a else none
  | _ => none
def goodGo (h e : Int) : Int → List D → Bool
  | _, [] => true
  | last, w :: r => match goodStep h e last w with
    | some a => goodGo h e a r
    | none => false
/-- the two ways to ask are one -/
theorem good_eq {h e : Int} : ∀ (ws : List D) (last : Int), 0 ≤ last → goodGo h e last ws = (ws.all (isWall h e) && incr ws && (match ws with
    | [] => true
    | w :: _ => decide (last < fst0 w)))
  | [], last, _ => rfl
  | w :: r, last, hl => by
    cases es : goodStep h e last w with
    | none =>
      have : isWall h e w = false ∨ ¬ last < fst0 w := by
        by_cases hw : isWall h e w = true
        · right
          unfold isWall at hw
          split at hw
          · rename_i a b c
            cases a with
            | int ai =>
              cases b with
              | int bi =>
                cases c with
                | int ci =>
                  simp [isWhole] at hw
                  simp [goodStep, isWhole] at es
                  show ¬ last < ai
                  intro hlt
                  have := es (by omega) (by omega) (by omega) (by omega) (by omega)
                  omega
                | _ => simp [isWhole] at hw
              | _ => cases c <;> simp [isWhole] at hw
            | _ => simp [isWhole] at hw
          · cases hw
        · left
          simpa using hw
      rcases this with z | z
      · simp [goodGo, es, z]
      · simp [goodGo, es, z]
    | some a =>
      have hs : ∃ b c, w = .tuple [.int a, .int b, .int c] ∧ last + 1 ≤ a ∧ a ≤ e - 1 ∧ 0 ≤ b ∧ b ≤ c ∧ c ≤ h := by
        unfold goodStep at es
        split at es
        · rename_i a' b c
          split at es
          · rename_i hc
            cases es
            cases c with
            | int ci =>
              simp [isWhole] at hc
              exact ⟨b, ci, rfl, by omega, by omega, by omega, by omega, by omega⟩
            | _ => simp [isWhole] at hc
          · cases es
        · cases es
      obtain ⟨b, c, rfl, h1, h2, h3, h4, h5⟩ := hs
      have hw : isWall h e (.tuple [.int a, .int b, .int c]) = true := by
        simp [isWall, isWhole]
        omega
      have hlt : last < a := by omega
      rw [goodGo, es]
      dsimp only
      rw [good_eq r a (by omega)]
      have hf : fst0 (.tuple [.int a, .int b, .int c]) = a := rfl
      simp only [List.all_cons, hw, Bool.true_and, hf, hlt, decide_true, Bool.and_true]
      cases r with
      | nil => rfl
      | cons w2 r2 =>
        simp only [incr, hf]
        cases (w2 :: r2).all (isWall h e) <;> cases incr (w2 :: r2) <;> simp
theorem good0 {h e : Int} {ws : List D} : goodGo h e 0 ws = (ws.all (isWall h e) && incr ws) := by
  rw [good_eq ws 0 (by omega)]
  cases ws with
  | nil => rfl
  | cons w r =>
    cases hw : isWall h e w with
    | false => simp [hw]
    | true =>
      obtain ⟨i, b, c, rfl, h1, _, h2⟩ := wall_fst hw
      have : (0 : Int) < fst0 (.tuple [.int i, b, c]) := by rw [h2]; omega
      simp [this]
end Z
end
section
set_option maxHeartbeats 4000000
namespace Z
open PySem PySem.Spec L2

theorem W_eqE {m : M D} {c : Str} (h : ∀ S, W m S (fun _ _ => False) (fun c' S' => c' = c ∧ S' = S)) : m = raise c := by
  funext S
  have := h S
  unfold W at this
  cases e : m S with
  | ok a S' => rw [e] at this; exact this.elim
  | err c S' => rw [e] at this; obtain ⟨rfl, rfl⟩ := this; rfl
  | no => rw [e] at this; exact this.elim
/-! ### the greatest common divisor -/
theorem gcd_loop {S : Store} {Pn : Ev → Store → Prop} {Pr : D → Store → Prop} : ∀ (n x y : Nat), y < n → Pn [some (.int (Nat.gcd x y : Nat)), some (.int 0)] S →
    WS (whileM (tB1 (e2 (g2 gNe) (eVar 1) (eC (.int 0)))) (sSeq (sPar 0 1 (eVar 1) (e2 (g2 gMod) (eVar 0) (eVar 1))) sNil) n) [some (.int (x : Nat)), some (.int (y : Nat))] S Pn Pr NE
  | 0, _, _, h, _ => by omega
  | n + 1, x, y, h, hp => by
    refine WSW ?_
    by_cases hy : y = 0
    · subst hy
      simpa using hp
    · have hy' : ¬ ((y : Int) = 0) := by omega
      have hy2 : (0 : Int) < y := by omega
      have e : (x : Int) % (y : Int) = ((x % y : Nat) : Int) := by omega
      simp [hy', hy2, e, -Int.natCast_emod]
      rw [if_neg hy]
      refine ⟨by omega, gcd_loop n y (x % y) (by have := Nat.mod_lt x (by omega : 0 < y); omega) ?_⟩
      have : Nat.gcd y (x % y) = Nat.gcd x y := by rw [Nat.gcd_comm x y, Nat.gcd_rec y x, Nat.gcd_comm]
      rw [this]
      exact hp
theorem abs_cast (i : Int) : (if i < 0 then -i else i) = ((i.natAbs : Nat) : Int) := by
  split <;> omega
theorem gcd_loop2 {S : Store} {t b : D} {Pn : Ev → Store → Prop} {Pr : D → Store → Prop} : ∀ (n x y : Nat), y < n → Pn [some t, some b, some (.int (Nat.gcd x y : Nat)), some (.int 0)] S →
    WS (whileM (tB1 (e2 (g2 gNe) (eVar 3) (eC (.int 0)))) (sSeq (sPar 2 3 (eVar 3) (e2 (g2 gMod) (eVar 2) (eVar 3))) sNil) n) [some t, some b, some (.int (x : Nat)), some (.int (y : Nat))] S Pn Pr NE
  | 0, _, _, h, _ => by omega
  | n + 1, x, y, h, hp => by
    refine WSW ?_
    by_cases hy : y = 0
    · subst hy
      simpa using hp
    · have hy' : ¬ ((y : Int) = 0) := by omega
      have hy2 : (0 : Int) < y := by omega
      have e : (x : Int) % (y : Int) = ((x % y : Nat) : Int) := by omega
      simp [hy', hy2, e, -Int.natCast_emod]
      rw [if_neg hy]
      refine ⟨by omega, gcd_loop2 n y (x % y) (by have := Nat.mod_lt x (by omega : 0 < y); omega) ?_⟩
      have : Nat.gcd y (x % y) = Nat.gcd x y := by rw [Nat.gcd_comm x y, Nat.gcd_rec y x, Nat.gcd_comm]
      rw [this]
      exact hp
theorem small_of {i : Int} (h : i.natAbs < 2 ^ 1000) : small i = true := by
  unfold small
  rw [decide_eq_true_iff]
  exact Nat.lt_trans h (Nat.pow_lt_pow_right (by omega) (by omega))
/-! ### fractions, rays -/
def isFrac (v : D) : Bool := match v with
  | .tuple [.int a, .int b] => decide (-1000000 ≤ a) && decide (a ≤ 1000000) && decide (1 ≤ b) && decide (b ≤ 1000000) && decide (Int.gcd a b = 1)
  | _ => false
theorem row2 {v : D} (h : isRow v 2 2 = true) : ∃ a b, v = .tuple [a, b] := by
  cases v with
  | tuple xs =>
    simp [isRow] at h
    match xs, h with
    | [], h => simp at h
    | [_], h => simp at h
    | [a, b], _ => exact ⟨a, b, rfl⟩
    | _ :: _ :: _ :: _, h => simp at h; omega
  | _ => simp [isRow] at h
theorem low_eq {a b : Int} (h1 : 1 ≤ b) (h2 : b ≤ 1000000) : (eqD (.tuple [.int (a / (Int.gcd a b : Nat)), .int (b / (Int.gcd a b : Nat))]) (.tuple [.int a, .int b])) = decide (Int.gcd a b = 1) := by
  have hg : 0 < Int.gcd a b := Int.gcd_pos_iff.mpr (.inr (by omega))
  simp [eqD, eqDs]
  by_cases hy : Int.gcd a b = 1
  · simp [hy]
  · have : ¬ b / (Int.gcd a b : Nat) = b := by
      intro e
      have h3 : b / (Int.gcd a b : Nat) < b := Int.ediv_lt_self_of_pos_of_ne_one (by omega) (by omega)
      omega
    simp [hy, this]
end Z
end
section
set_option maxHeartbeats 4000000
namespace Z
open PySem PySem.Spec L2
@[simp] theorem gPow6 : gPow (.int 10) (.int 6) = pure (.int 1000000) := by
  unfold gPow
  dsimp only
  rw [if_pos (by decide)]
  rfl
theorem frac_int {v : D} (h : isFrac v = true) : ∃ a b : Int, v = .tuple [.int a, .int b] ∧ -1000000 ≤ a ∧ a ≤ 1000000 ∧ 1 ≤ b ∧ b ≤ 1000000 := by
  unfold isFrac at h
  split at h
  · rename_i a b
    simp at h
    exact ⟨a, b, rfl, by omega, by omega, by omega, by omega⟩
  · cases h
def isRay (hh : Int) (v : D) : Bool := match v with
  | .tuple [f, g] => isFrac f && isFrac g && (match f, g with
    | .tuple [.int t, .int b], .tuple [.int r, .int l] => decide (0 ≤ t) && decide (t ≤ hh * b) && decide (-l ≤ r) && decide (r ≤ l)
    | _, _ => false)
  | _ => false
theorem m_need_hall {n : Nat} {v : D} (h : okD (n + 3) v = true) : r_need_hall [v] = if isHall v = true then pure .none else raise "InvalidHall" := by
  cases hv : isHall v with
  | true =>
    rw [if_pos rfl]
    refine W_eq fun S => ?_
    unfold r_need_hall
    rw [W_fnT]
    simp [b_need_hall, N_need_hall, m_is_hall h, hv]
  | false =>
    rw [if_neg (by decide)]
    refine W_eqE fun S => ?_
    unfold r_need_hall
    rw [W_fnT]
    simp [b_need_hall, N_need_hall, m_is_hall h, hv]
theorem hall_of {v : D} (h : isHall v = true) : ∃ (hh e : Int) (ws : List D), v = .tuple [.int hh, .tuple ws, .int e] ∧ 1 ≤ hh ∧ hh ≤ 60 ∧ 1 ≤ e ∧ e ≤ hh ∧ ws.length ≤ 3 ∧ (∀ w ∈ ws, isWall hh e w = true) ∧ incr ws = true := by
  unfold isHall at h
  split at h
  · rename_i hh ws e
    simp at h
    exact ⟨hh, e, ws, rfl, by omega, by omega, by omega, by omega, by omega, h.1.2, h.2⟩
  · cases h
def hallH (v : D) : Int := match v with
  | .tuple (.int h :: _) => h
  | _ => 0
end Z
end
section
set_option maxHeartbeats 4000000
namespace Z
open PySem PySem.Spec L2
/-! ### events, words -/
def isEvent (ks : List Str) (v : D) : Bool := match v with
  | .tuple [.str s, b] => decide (s ∈ ks) && isWhole b (-9) 9
  | _ => false
theorem any_str {ks : List Str} {s : Str} : (ks.map D.str).any (fun z => eqD z (.str s)) = decide (s ∈ ks) := by
  induction ks with
  | nil => rfl
  | cons k ks ih =>
    rw [List.map_cons, List.any_cons, ih]
    simp only [eqD, List.mem_cons]
    by_cases h : k = s
    · simp [h]
    · have h' : ¬ s = k := fun z => h z.symm
      simp [h, h']
theorem okD_str {n : Nat} {s : Str} : okD n (.str s) = PyData.strOk s := by cases n <;> rfl
theorem okDs_strs {n : Nat} {ks : List Str} (h : ∀ k ∈ ks, PyData.strOk k = true) : okDs n (ks.map .str) = true :=
  okDs_of fun x hx => by
    obtain ⟨k, hk, rfl⟩ := List.mem_map.mp hx
    rw [okD_str]
    exact h k hk
theorem gIn_t {ks : List Str} {s : Str} {neg : Bool} (h : ∀ k ∈ ks, PyData.strOk k = true) (hs : PyData.strOk s = true) : gIn neg (.str s) (.tuple (ks.map .str)) = pure (.bool (neg ^^ decide (s ∈ ks))) := by
  unfold gIn
  dsimp only
  rw [if_pos ⟨by rw [okD_str]; exact hs, okDs_strs h⟩, any_str]
theorem gIn_l {ks : List Str} {s : Str} {neg : Bool} (h : ∀ k ∈ ks, PyData.strOk k = true) (hs : PyData.strOk s = true) : gIn neg (.str s) (.list (ks.map .str)) = pure (.bool (neg ^^ decide (s ∈ ks))) := by
  unfold gIn
  dsimp only
  rw [if_pos ⟨by rw [okD_str]; exact hs, okDs_strs h⟩, any_str]
def lastKs (k : Nat) (many : Nat) : List Str := if k = many + 1 then ["screen"] else ["under", "over"]
def isWord (many : Nat) (v : D) : Bool := match v with
  | .tuple xs => decide (1 ≤ xs.length) && decide (xs.length ≤ many + 1) && xs.dropLast.all (isEvent ["through"]) && (match xs.getLast? with
    | some l => isEvent (lastKs xs.length many) l
    | none => false)
  | _ => false
theorem through_ok : ∀ k ∈ (["through"] : List Str), PyData.strOk k = true := by
  intro k hk
  simp only [List.mem_cons, List.not_mem_nil, or_false] at hk
  subst hk
  decide +kernel
theorem last_ok {k many : Nat} : ∀ x ∈ lastKs k many, PyData.strOk x = true := by
  intro x hx
  unfold lastKs at hx
  split at hx
  · simp only [List.mem_cons, List.not_mem_nil, or_false] at hx
    subst hx
    decide +kernel
  · simp only [List.mem_cons, List.not_mem_nil, or_false] at hx
    rcases hx with rfl | rfl <;> decide +kernel
theorem cut_last {xs : List D} : cutD xs none (some (-1)) = xs.dropLast := by
  have e1 : HT.sIx xs.length 0 none = 0 := rfl
  have e2 : HT.sIx xs.length xs.length (some (-1)) = xs.length - 1 := by
    show (if (-1 : Int) < 0 then ((-1 : Int) + (xs.length : Int)).toNat else min (-1 : Int).toNat xs.length) = xs.length - 1
    rw [if_pos (by omega)]
    omega
  unfold cutD
  rw [e1, e2, List.dropLast_eq_take]
  simp
theorem at_last {xs : List D} (h : xs ≠ []) : atI xs (-1) = xs.getLast? := by
  have hl : 0 < xs.length := List.length_pos_iff.mpr h
  unfold atI ixN
  rw [if_neg (by omega), if_pos (by omega), Option.bind_some, List.getLast?_eq_getElem?]
  congr 1
  omega
/-- how many walls -/
def hallN (v : D) : Nat := match v with
  | .tuple [_, .tuple ws, _] => ws.length
  | _ => 0
end Z
end
section
set_option maxHeartbeats 4000000
namespace Z
open PySem PySem.Spec L2
/-- the kinds that the place i asks -/
def kindsAt (k many i : Nat) : List Str := if i + 1 = k then lastKs k many else ["through"]
theorem kinds_ok {k many i : Nat} : ∀ x ∈ kindsAt k many i, PyData.strOk x = true := by
  intro x hx
  unfold kindsAt at hx
  split at hx
  · exact last_ok x hx
  · exact through_ok x hx
def wordAll (k many : Nat) : Nat → List D → Bool
  | _, [] => true
  | i, x :: xs => isEvent (kindsAt k many i) x && wordAll k many (i + 1) xs
theorem wordAll_eq {many : Nat} : ∀ (xs : List D) (i : Nat), xs ≠ [] → wordAll (i + xs.length) many i xs = (xs.dropLast.all (isEvent ["through"]) && (match xs.getLast? with
    | some l => isEvent (lastKs (i + xs.length) many) l
    | none => false))
  | [], _, h => absurd rfl h
  | [x], i, _ => by simp [wordAll, kindsAt]
  | x :: y :: r, i, _ => by
    have e := wordAll_eq (many := many) (y :: r) (i + 1) (by simp)
    have l1 : i + (x :: y :: r).length = i + 1 + (y :: r).length := by simp only [List.length_cons]; omega
    rw [wordAll, l1, e]
    have k : kindsAt (i + 1 + (y :: r).length) many i = (["through"] : List Str) := by
      unfold kindsAt
      rw [if_neg (by simp only [List.length_cons]; omega)]
    rw [k]
    simp only [List.dropLast_cons₂, List.all_cons, List.getLast?_cons_cons, Bool.and_assoc]
theorem at_nat {xs : List D} {i : Nat} {d : D} (h : xs[i]? = some d) : atI xs (i : Nat) = some d := by
  have := (List.getElem?_eq_some_iff.mp h).1
  unfold atI ixN
  rw [if_pos (by omega), if_pos (by omega)]
  simpa using h
theorem wordAll_of {k many : Nat} : ∀ {xs : List D} {i : Nat}, (∀ j d, xs[j]? = some d → isEvent (kindsAt k many (i + j)) d = true) → wordAll k many i xs = true
  | [], _, _ => rfl
  | x :: xs, i, h => by
    rw [wordAll, Bool.and_eq_true]
    refine ⟨h 0 x rfl, wordAll_of fun j d hd => ?_⟩
    have := h (j + 1) d (by simpa using hd)
    rw [← Nat.add_assoc, Nat.add_right_comm] at this
    exact this
theorem wordAll_get {k many : Nat} : ∀ {xs : List D} {i j : Nat} {d : D}, wordAll k many i xs = true → xs[j]? = some d → isEvent (kindsAt k many (i + j)) d = true
  | [], _, _, _, _, hd => by simp at hd
  | x :: xs, i, 0, d, h, hd => by
    rw [wordAll, Bool.and_eq_true] at h
    simp at hd
    subst hd
    exact h.1
  | x :: xs, i, j + 1, d, h, hd => by
    rw [wordAll, Bool.and_eq_true] at h
    have := wordAll_get (i := i + 1) (j := j) h.2 (by simpa using hd)
    rw [Nat.add_right_comm] at this
    exact this
theorem word_eq {many : Nat} {xs : List D} (h1 : 1 ≤ xs.length) (h2 : xs.length ≤ many + 1) : isWord many (.tuple xs) = wordAll xs.length many 0 xs := by
  have hne : xs ≠ [] := fun z => by rw [z] at h1; simp at h1
  have := wordAll_eq (many := many) xs 0 hne
  rw [Nat.zero_add] at this
  rw [this]
  simp only [isWord, h1, h2, decide_true, Bool.true_and]
  all_goals (cases xs.getLast? <;> rfl)
end Z
end
section
set_option maxHeartbeats 4000000
namespace Z
open PySem PySem.Spec L2
/-! ### the bag of draws -/
def Bag (S : Store) (n : Nat) : Prop := ∃ ns : List Int, S[n]? = some (.lst (ns.map .int)) ∧ ns.length ≤ 1000
/-- the bag alone is written -/
def Upd (S : Store) (n : Nat) (S' : Store) : Prop := ∃ ns : List Int, S' = S.set n (.lst (ns.map .int)) ∧ ns.length ≤ 1000
theorem Upd.trans {S S1 S2 : Store} {n : Nat} (a : Upd S n S1) (b : Upd S1 n S2) : Upd S n S2 := by
  obtain ⟨ns, rfl, _⟩ := a
  obtain ⟨ms, rfl, h⟩ := b
  exact ⟨ms, by rw [List.set_set], h⟩
theorem Upd.len {S S1 : Store} {n : Nat} (a : Upd S n S1) : S1.length = S.length := by
  obtain ⟨ns, rfl, _⟩ := a
  simp
theorem Bag.lt {S : Store} {n : Nat} (b : Bag S n) : n < S.length := by
  obtain ⟨ns, e, _⟩ := b
  exact (List.getElem?_eq_some_iff.mp e).1
theorem Bag.upd {S S1 : Store} {n : Nat} (b : Bag S n) (a : Upd S n S1) : Bag S1 n := by
  have := b.lt
  obtain ⟨ns, rfl, h⟩ := a
  exact ⟨ns, by rw [List.getElem?_set_self this], h⟩
theorem Bag.self {S : Store} {n : Nat} (b : Bag S n) : Upd S n S := by
  have hl := b.lt
  obtain ⟨ns, e, h⟩ := b
  refine ⟨ns, ?_, h⟩
  obtain ⟨_, e⟩ := List.getElem?_eq_some_iff.mp e
  rw [← e, List.set_getElem_self]
theorem okDs_int {k : Nat} {ns : List Int} : okDs k (ns.map .int) = true := okDs_of fun x hx => by
  obtain ⟨i, _, rfl⟩ := List.mem_map.mp hx
  simp
theorem m_take {S : Store} {n : Nat} {m : Int} (b : Bag S n) (hm : 0 < m) : W (r__law_take [.cell n, .int m]) S (fun d S' => (∃ i : Int, d = .int i ∧ 0 ≤ i ∧ i < m) ∧ Upd S n S') NE := by
  obtain ⟨ns, e, hl⟩ := id b
  unfold r__law_take
  rw [W_fnT]
  have h0 : okD 64 (.list []) = true := by simp
  have h1 : okD 64 (.list (ns.map .int)) = true := by rw [okD_list]; exact okDs_int
  cases ns with
  | nil =>
    simp [b__law_take, N__law_take, W_rd e, gNe_ok h0 h0, eqD, eqDs, hm]
    exact b.self
  | cons x ns =>
    simp only [List.length_cons] at hl
    simp only [List.map_cons] at e h1
    simp [b__law_take, N__law_take, W_rd e, gNe_ok h1 h0, eqD, eqDs, W_pop0 e (by rw [List.length_map]; omega), hm]
    refine ⟨⟨Int.emod_nonneg _ (by omega), Int.emod_lt_of_pos _ hm⟩, ns, ?_, by omega⟩
    exact List.take_of_length_le (by simp)
theorem at_int {xs : List D} {i : Int} (h0 : 0 ≤ i) (h1 : i < xs.length) : ∃ d, atI xs i = some d ∧ d ∈ xs := by
  have hi : i.toNat < xs.length := by omega
  refine ⟨xs[i.toNat], ?_, List.getElem_mem hi⟩
  unfold atI ixN
  rw [if_pos h0, if_pos h1, Option.bind_some, List.getElem?_eq_getElem hi]
theorem m_choice {S : Store} {n : Nat} {xs : List D} (b : Bag S n) (hx : 0 < xs.length) (hf : fixDs xs = true) : W (r__law_choice [.cell n, .list xs]) S (fun d S' => d ∈ xs ∧ Upd S n S') NE := by
  unfold r__law_choice
  rw [W_fnT]
  simp [b__law_choice, N__law_choice]
  refine W_mono (m_take b (by omega)) (fun a S' ha => ?_)
  obtain ⟨⟨i, rfl, h0, h1⟩, hu⟩ := ha
  obtain ⟨d, hd, hm⟩ := at_int h0 h1
  simp [hd]
  have fd : fixD d = true := by
    have : ∀ xs : List D, fixDs xs = true → ∀ d ∈ xs, fixD d = true := by
      intro xs
      induction xs with
      | nil => intro _ d hd; simp at hd
      | cons x xs ih =>
        intro h d hd
        rw [fixDs, Bool.and_eq_true] at h
        rcases List.mem_cons.mp hd with rfl | hd
        · exact h.1
        · exact ih h.2 d hd
    exact this xs hf d hm
  rw [W_endT fd]
  exact ⟨hm, by rw [← hu.len, List.take_length]; exact hu⟩
end Z
end
section
set_option maxHeartbeats 4000000
namespace Z
open PySem PySem.Spec L2
/-! ### the script's draws -/
theorem at_map {ns : List Int} {i : Int} (h0 : 0 ≤ i) (h1 : i < ns.length) : ∃ c : Int, atI (ns.map D.int) i = some (.int c) := by
  obtain ⟨d, hd, hm⟩ := at_int (xs := ns.map .int) h0 (by simpa using h1)
  obtain ⟨c, _, rfl⟩ := List.mem_map.mp hm
  exact ⟨c, hd⟩
theorem m_cell {S : Store} {ns : List Int} {k : Nat} (hl : ns.length ≤ 63) (hk : k ≤ 100) : W (r__law_cell [script ns, .int (k : Nat)]) S (fun d S' => (∃ c : Int, d = .int c) ∧ S' = S) NE := by
  have s1 : small 7919 = true := by decide +kernel
  have s2 : small (k : Nat) = true := small_of (by have : (100 : Nat) < 2 ^ 1000 := by decide +kernel
                                                   omega)
  unfold r__law_cell
  rw [W_fnT]
  simp [b__law_cell, N__law_cell, script, s1, s2]
  by_cases h : k < ns.length
  · rw [if_pos h]
    obtain ⟨c, hc⟩ := at_map (ns := ns) (i := k) (by omega) (by omega)
    simp [hc]
  · rw [if_neg h]
    intro hne
    have hpos : 0 < ns.length := List.length_pos_iff.mpr hne
    refine ⟨hpos, ?_⟩
    obtain ⟨c, hc⟩ := at_map (ns := ns) (i := (k : Int) % (ns.length : Int)) (Int.emod_nonneg _ (by omega)) (Int.emod_lt_of_pos _ (by omega))
    simp [hc]
end Z
end
section
set_option maxHeartbeats 4000000
namespace Z
open PySem PySem.Spec L2
/-- bounded by a power of two -/
def Sm (k : Nat) (i : Int) : Prop := i.natAbs < 2 ^ k
theorem Sm.small {k : Nat} {i : Int} (h : Sm k i) (hk : k ≤ 4000 := by omega) : small i = true := by
  unfold Z.small
  rw [decide_eq_true_iff]
  exact Nat.lt_of_lt_of_le h (Nat.pow_le_pow_right (by omega) hk)
theorem Sm.mono {j k : Nat} {i : Int} (h : Sm j i) (hk : j ≤ k := by omega) : Sm k i := Nat.lt_of_lt_of_le h (Nat.pow_le_pow_right (by omega) hk)
theorem Sm.mul {j k : Nat} {a b : Int} (h : Sm j a) (h' : Sm k b) : Sm (j + k) (a * b) := by
  unfold Sm at *
  rw [Int.natAbs_mul, Nat.pow_add]
  exact Nat.mul_lt_mul'' h h'
theorem Sm.add {k : Nat} {a b : Int} (h : Sm k a) (h' : Sm k b) : Sm (k + 1) (a + b) := by
  unfold Sm at *
  have := Int.natAbs_add_le a b
  rw [Nat.pow_succ]
  omega
theorem Sm.sub {k : Nat} {a b : Int} (h : Sm k a) (h' : Sm k b) : Sm (k + 1) (a - b) := by
  unfold Sm at *
  have := Int.natAbs_sub_le a b
  rw [Nat.pow_succ]
  omega
theorem Sm.neg {k : Nat} {a : Int} (h : Sm k a) : Sm k (-a) := by
  unfold Sm at *
  omega
theorem Sm.of {i : Int} (k : Nat) {b : Nat} (h : i.natAbs ≤ b) (hb : b < 2 ^ k := by decide) : Sm k i := Nat.lt_of_le_of_lt h hb
def primes : List Int := [2147483647, 2147483629, 2147483587, 2147483579, 2147483563, 2147483549, 2147483543, 2147483497]
theorem prime_at {i : Int} (h0 : 0 ≤ i) (h1 : i < 8) : ∃ p : Int, atI (primes.map D.int) i = some (.int p) ∧ 0 < p ∧ p < 2147483648 := by
  obtain ⟨d, hd, hm⟩ := at_int (xs := primes.map .int) h0 (by simpa [primes] using h1)
  obtain ⟨c, hc, rfl⟩ := List.mem_map.mp hm
  refine ⟨c, hd, ?_⟩
  simp only [primes, List.mem_cons, List.not_mem_nil, or_false] at hc
  omega
theorem small_lt31 {i : Int} (h0 : -(10 ^ 30) ≤ i) (h1 : i ≤ 10 ^ 30) : small i = true := small_of (by
  have : (10 ^ 30 : Nat) < 2 ^ 1000 := by decide +kernel
  omega)
def drS0 : BS := (sSet 9 (e2 (g2 gMul) (e2 (g2 gMod) (eVar 5) (e2 (g2 gIx) (eVar 4) (e2 (g2 gMod) (eVar 8) (eC (.int 8))))) (e2 (g2 gAdd) (eC (.int 48271)) (e2 (g2 gMul) (e2 (g2 gMul) (eC (.int 2)) (eVar 8)) (eVar 8)))))
def drS1 : BS := (sSet 9 (e2 (g2 gAdd) (e2 (g2 gAdd) (eVar 9) (e2 (g2 gMul) (e2 (g2 gMul) (eC (.int 7919)) (e2 (g2 gAdd) (eVar 8) (eC (.int 1)))) (e2 (g2 gAdd) (eVar 8) (eC (.int 1))))) (e2 (g2 gMul) (eC (.int 104729)) (eVar 1))))
def drS2 : BS := (sSet 9 (e2 (g2 gMod) (eVar 9) (e2 (g2 gIx) (eVar 4) (e2 (g2 gMod) (e2 (g2 gAdd) (e2 (g2 gMul) (eC (.int 3)) (eVar 8)) (eVar 1)) (eC (.int 8))))))
def drS3 : BS := (sSet 9 (e2 (g2 gMod) (e2 (g2 gMul) (e2 (g2 gMul) (eVar 9) (eVar 9)) (eVar 9)) (e2 (g2 gIx) (eVar 4) (e2 (g2 gMod) (e2 (g2 gAdd) (eVar 8) (eC (.int 5))) (eC (.int 8))))))
def drS4 : BS := (sIf (tB1 (e2 (g2 gGt) (eVar 6) (eC (.int 0)))) (sSeq (sSet 9 (eVar 6)) sNil) sNil)
def drS5 : BS := (sExpr (eApp (eVar 7) (e2 (g2 gMod) (eVar 9) (eVar 3))))
def drS6 : BS := (sSet 6 (e2 (g2 gDiv) (eVar 6) (eVar 3)))
def drB : BS := (sSeq drS0 (sSeq drS1 (sSeq drS2 (sSeq drS3 (sSeq drS4 (sSeq drS5 (sSeq drS6 sNil)))))))
theorem dr_b (i : Nat) : b__law_draws i = (sSeq (sSet 4 (eTup (aCons (eC (.int 2147483647)) (aCons (eC (.int 2147483629)) (aCons (eC (.int 2147483587)) (aCons (eC (.int 2147483579)) (aCons (eC (.int 2147483563)) (aCons (eC (.int 2147483549)) (aCons (eC (.int 2147483543)) (aCons (eC (.int 2147483497)) aNil)))))))))) (sSeq (sSet 5 (eCall 2 r__law_cell (aCons (eVar 0) (aCons (eVar 1) aNil)))) (sSeq (sSet 6 (eC (.int 0))) (sSeq (sIf (tB1 (e2 (g2 gGe) (eVar 5) (e2 (g2 gPow) (eC (.int 10)) (eC (.int 18))))) (sSeq (sSet 6 (eVar 5)) sNil) sNil) (sSeq (sSet 7 (eCel aNil)) (sSeq (sFor (iRg (eVar 2)) (.name 8) drB) (sSeq (sRet (eVar 7)) sNil))))))) := rfl
theorem dr_s0 {S : Store} {T K M : D} {c rest : Int} {n j k : Nat} {ds : List Int} (hj : j ≤ 1000) (hk : k ≤ 100) {x9 : Option D} :
    WS drS0 [some T, some (.int (k : Nat)), some M, some (.int 27720), some (.tuple (primes.map .int)), some (.int c), some (.int rest), some (.cell n), some (.int (j : Nat)), x9] S (fun v S' => ∃ q' : Int, v = [some T, some (.int (k : Nat)), some M, some (.int 27720), some (.tuple (primes.map .int)), some (.int c), some (.int rest), some (.cell n), some (.int (j : Nat)), some (.int q')] ∧ S' = S) (fun _ _ => False) NE := by
  obtain ⟨p1, e1, a1, b1⟩ := prime_at (i := (j : Int) % 8) (by omega) (by omega)
  obtain ⟨p2, e2, a2, b2⟩ := prime_at (i := (3 * (j : Int) + k) % 8) (by omega) (by omega)
  obtain ⟨p3, e3, a3, b3⟩ := prime_at (i := ((j : Int) + 5) % 8) (by omega) (by omega)
  have sj : Sm 20 (j : Int) := .of 20 (b := 1000) (by omega)
  have s2 : small 2 = true := (Sm.of 20 (b := 1000) (by omega)).small
  have sjs : small (j : Int) = true := sj.small
  have s3 : small 3 = true := (Sm.of 20 (b := 1000) (by omega)).small
  have s4 : small 27720 = true := (Sm.of 20 (b := 100000) (by omega)).small
  have s5 : small (2 * (j : Int)) = true := (Sm.mul (.of 20 (b := 1000) (by omega)) sj).small
  have s6 : Sm 41 (2 * (j : Int) * (j : Int)) := (Sm.mul (Sm.of 20 (b := 2000) (by omega)) sj).mono
  have s7 : small (48271 + 2 * (j : Int) * (j : Int)) = true := (Sm.add (.of 41 (b := 100000) (by omega)) s6).small
  have s8 : small (c % p1) = true := by
    have h1 := Int.emod_nonneg c (show p1 ≠ 0 by omega)
    have h2 := Int.emod_lt_of_pos c a1
    exact (Sm.of 32 (b := 2147483648) (by omega)).small
  have s9 : small 7919 = true := (Sm.of 20 (b := 10000) (by omega)).small
  have s10 : small ((j : Int) + 1) = true := (Sm.of 20 (b := 1001) (by omega)).small
  have s11 : small (7919 * ((j : Int) + 1)) = true := (Sm.mul (.of 20 (b := 10000) (by omega)) (.of 20 (b := 1001) (by omega))).small
  have s12 : small 104729 = true := (Sm.of 20 (b := 104729) (by omega)).small
  have s13 : small (k : Int) = true := (Sm.of 20 (b := 1000) (by omega)).small
  have hq : ∀ q : Int, Sm 32 (q % p2) := fun q => by
    have h1 := Int.emod_nonneg q (show p2 ≠ 0 by omega)
    have h2 := Int.emod_lt_of_pos q a2
    exact .of 32 (b := 2147483648) (by omega)
  simp [drS0, e1, e2, e3, a1, a2, a3, s2, sjs, s3, s4, s5, s7, s8, s9, s10, s11, s12, s13]
theorem dr_s1 {S : Store} {T K M : D} {c rest : Int} {n j k : Nat} {ds : List Int} (hj : j ≤ 1000) (hk : k ≤ 100) {q : Int} :
    WS drS1 [some T, some (.int (k : Nat)), some M, some (.int 27720), some (.tuple (primes.map .int)), some (.int c), some (.int rest), some (.cell n), some (.int (j : Nat)), some (.int q)] S (fun v S' => ∃ q' : Int, v = [some T, some (.int (k : Nat)), some M, some (.int 27720), some (.tuple (primes.map .int)), some (.int c), some (.int rest), some (.cell n), some (.int (j : Nat)), some (.int q')] ∧ S' = S) (fun _ _ => False) NE := by
  obtain ⟨p1, e1, a1, b1⟩ := prime_at (i := (j : Int) % 8) (by omega) (by omega)
  obtain ⟨p2, e2, a2, b2⟩ := prime_at (i := (3 * (j : Int) + k) % 8) (by omega) (by omega)
  obtain ⟨p3, e3, a3, b3⟩ := prime_at (i := ((j : Int) + 5) % 8) (by omega) (by omega)
  have sj : Sm 20 (j : Int) := .of 20 (b := 1000) (by omega)
  have s2 : small 2 = true := (Sm.of 20 (b := 1000) (by omega)).small
  have sjs : small (j : Int) = true := sj.small
  have s3 : small 3 = true := (Sm.of 20 (b := 1000) (by omega)).small
  have s4 : small 27720 = true := (Sm.of 20 (b := 100000) (by omega)).small
  have s5 : small (2 * (j : Int)) = true := (Sm.mul (.of 20 (b := 1000) (by omega)) sj).small
  have s6 : Sm 41 (2 * (j : Int) * (j : Int)) := (Sm.mul (Sm.of 20 (b := 2000) (by omega)) sj).mono
  have s7 : small (48271 + 2 * (j : Int) * (j : Int)) = true := (Sm.add (.of 41 (b := 100000) (by omega)) s6).small
  have s8 : small (c % p1) = true := by
    have h1 := Int.emod_nonneg c (show p1 ≠ 0 by omega)
    have h2 := Int.emod_lt_of_pos c a1
    exact (Sm.of 32 (b := 2147483648) (by omega)).small
  have s9 : small 7919 = true := (Sm.of 20 (b := 10000) (by omega)).small
  have s10 : small ((j : Int) + 1) = true := (Sm.of 20 (b := 1001) (by omega)).small
  have s11 : small (7919 * ((j : Int) + 1)) = true := (Sm.mul (.of 20 (b := 10000) (by omega)) (.of 20 (b := 1001) (by omega))).small
  have s12 : small 104729 = true := (Sm.of 20 (b := 104729) (by omega)).small
  have s13 : small (k : Int) = true := (Sm.of 20 (b := 1000) (by omega)).small
  have hq : ∀ q : Int, Sm 32 (q % p2) := fun q => by
    have h1 := Int.emod_nonneg q (show p2 ≠ 0 by omega)
    have h2 := Int.emod_lt_of_pos q a2
    exact .of 32 (b := 2147483648) (by omega)
  simp [drS1, e1, e2, e3, a1, a2, a3, s2, sjs, s3, s4, s5, s7, s8, s9, s10, s11, s12, s13]
theorem dr_s2 {S : Store} {T K M : D} {c rest : Int} {n j k : Nat} {ds : List Int} (hj : j ≤ 1000) (hk : k ≤ 100) {q : Int} :
    WS drS2 [some T, some (.int (k : Nat)), some M, some (.int 27720), some (.tuple (primes.map .int)), some (.int c), some (.int rest), some (.cell n), some (.int (j : Nat)), some (.int q)] S (fun v S' => ∃ q' : Int, v = [some T, some (.int (k : Nat)), some M, some (.int 27720), some (.tuple (primes.map .int)), some (.int c), some (.int rest), some (.cell n), some (.int (j : Nat)), some (.int q')] ∧ S' = S ∧ Sm 32 q') (fun _ _ => False) NE := by
  obtain ⟨p1, e1, a1, b1⟩ := prime_at (i := (j : Int) % 8) (by omega) (by omega)
  obtain ⟨p2, e2, a2, b2⟩ := prime_at (i := (3 * (j : Int) + k) % 8) (by omega) (by omega)
  obtain ⟨p3, e3, a3, b3⟩ := prime_at (i := ((j : Int) + 5) % 8) (by omega) (by omega)
  have sj : Sm 20 (j : Int) := .of 20 (b := 1000) (by omega)
  have s2 : small 2 = true := (Sm.of 20 (b := 1000) (by omega)).small
  have sjs : small (j : Int) = true := sj.small
  have s3 : small 3 = true := (Sm.of 20 (b := 1000) (by omega)).small
  have s4 : small 27720 = true := (Sm.of 20 (b := 100000) (by omega)).small
  have s5 : small (2 * (j : Int)) = true := (Sm.mul (.of 20 (b := 1000) (by omega)) sj).small
  have s6 : Sm 41 (2 * (j : Int) * (j : Int)) := (Sm.mul (Sm.of 20 (b := 2000) (by omega)) sj).mono
  have s7 : small (48271 + 2 * (j : Int) * (j : Int)) = true := (Sm.add (.of 41 (b := 100000) (by omega)) s6).small
  have s8 : small (c % p1) = true := by
    have h1 := Int.emod_nonneg c (show p1 ≠ 0 by omega)
    have h2 := Int.emod_lt_of_pos c a1
    exact (Sm.of 32 (b := 2147483648) (by omega)).small
  have s9 : small 7919 = true := (Sm.of 20 (b := 10000) (by omega)).small
  have s10 : small ((j : Int) + 1) = true := (Sm.of 20 (b := 1001) (by omega)).small
  have s11 : small (7919 * ((j : Int) + 1)) = true := (Sm.mul (.of 20 (b := 10000) (by omega)) (.of 20 (b := 1001) (by omega))).small
  have s12 : small 104729 = true := (Sm.of 20 (b := 104729) (by omega)).small
  have s13 : small (k : Int) = true := (Sm.of 20 (b := 1000) (by omega)).small
  have hq : ∀ q : Int, Sm 32 (q % p2) := fun q => by
    have h1 := Int.emod_nonneg q (show p2 ≠ 0 by omega)
    have h2 := Int.emod_lt_of_pos q a2
    exact .of 32 (b := 2147483648) (by omega)
  simp [drS2, e1, e2, e3, a1, a2, a3, s2, sjs, s3, s4, s5, s7, s8, s9, s10, s11, s12, s13]
  exact hq _
theorem dr_s3 {S : Store} {T K M : D} {c rest : Int} {n j k : Nat} {ds : List Int} (hj : j ≤ 1000) (hk : k ≤ 100) {q : Int} (hq0 : Sm 32 q) :
    WS drS3 [some T, some (.int (k : Nat)), some M, some (.int 27720), some (.tuple (primes.map .int)), some (.int c), some (.int rest), some (.cell n), some (.int (j : Nat)), some (.int q)] S (fun v S' => ∃ q' : Int, v = [some T, some (.int (k : Nat)), some M, some (.int 27720), some (.tuple (primes.map .int)), some (.int c), some (.int rest), some (.cell n), some (.int (j : Nat)), some (.int q')] ∧ S' = S) (fun _ _ => False) NE := by
  obtain ⟨p1, e1, a1, b1⟩ := prime_at (i := (j : Int) % 8) (by omega) (by omega)
  obtain ⟨p2, e2, a2, b2⟩ := prime_at (i := (3 * (j : Int) + k) % 8) (by omega) (by omega)
  obtain ⟨p3, e3, a3, b3⟩ := prime_at (i := ((j : Int) + 5) % 8) (by omega) (by omega)
  have sj : Sm 20 (j : Int) := .of 20 (b := 1000) (by omega)
  have s2 : small 2 = true := (Sm.of 20 (b := 1000) (by omega)).small
  have sjs : small (j : Int) = true := sj.small
  have s3 : small 3 = true := (Sm.of 20 (b := 1000) (by omega)).small
  have s4 : small 27720 = true := (Sm.of 20 (b := 100000) (by omega)).small
  have s5 : small (2 * (j : Int)) = true := (Sm.mul (.of 20 (b := 1000) (by omega)) sj).small
  have s6 : Sm 41 (2 * (j : Int) * (j : Int)) := (Sm.mul (Sm.of 20 (b := 2000) (by omega)) sj).mono
  have s7 : small (48271 + 2 * (j : Int) * (j : Int)) = true := (Sm.add (.of 41 (b := 100000) (by omega)) s6).small
  have s8 : small (c % p1) = true := by
    have h1 := Int.emod_nonneg c (show p1 ≠ 0 by omega)
    have h2 := Int.emod_lt_of_pos c a1
    exact (Sm.of 32 (b := 2147483648) (by omega)).small
  have s9 : small 7919 = true := (Sm.of 20 (b := 10000) (by omega)).small
  have s10 : small ((j : Int) + 1) = true := (Sm.of 20 (b := 1001) (by omega)).small
  have s11 : small (7919 * ((j : Int) + 1)) = true := (Sm.mul (.of 20 (b := 10000) (by omega)) (.of 20 (b := 1001) (by omega))).small
  have s12 : small 104729 = true := (Sm.of 20 (b := 104729) (by omega)).small
  have s13 : small (k : Int) = true := (Sm.of 20 (b := 1000) (by omega)).small
  have hq : ∀ q : Int, Sm 32 (q % p2) := fun q => by
    have h1 := Int.emod_nonneg q (show p2 ≠ 0 by omega)
    have h2 := Int.emod_lt_of_pos q a2
    exact .of 32 (b := 2147483648) (by omega)
  simp [drS3, e1, e2, e3, a1, a2, a3, s2, sjs, s3, s4, s5, s7, s8, s9, s10, s11, s12, s13, hq0.small, (hq0.mul hq0).small]
theorem dr_body {S : Store} {T K M : D} {c rest : Int} {n j k : Nat} {ds : List Int} {x9 : Option D} (hn : S[n]? = some (.lst (ds.map .int))) (hl : ds.length ≤ 1000) (hj : j ≤ 1000) (hk : k ≤ 100) :
    WS drB [some T, some (.int (k : Nat)), some M, some (.int 27720), some (.tuple (primes.map .int)), some (.int c), some (.int rest), some (.cell n), some (.int (j : Nat)), x9] S
      (fun v S' => ∃ (r' y : Int) (z9 : Option D), v = [some T, some (.int (k : Nat)), some M, some (.int 27720), some (.tuple (primes.map .int)), some (.int c), some (.int r'), some (.cell n), some (.int (j : Nat)), z9] ∧ S' = S.set n (.lst ((ds ++ [y]).map .int))) (fun _ _ => False) NE := by
  unfold drB
  rw [WS_seq]
  refine WS_mono (dr_s0 (K := K) (ds := ds) hj hk) (fun v S' hv => ?_) fun _ _ h => h
  obtain ⟨q0, rfl, rfl⟩ := hv
  rw [WS_seq]
  refine WS_mono (dr_s1 (K := K) (ds := ds) hj hk) (fun v S' hv => ?_) fun _ _ h => h
  obtain ⟨q1, rfl, rfl⟩ := hv
  rw [WS_seq]
  refine WS_mono (dr_s2 (K := K) (ds := ds) hj hk) (fun v S' hv => ?_) fun _ _ h => h
  obtain ⟨q2, rfl, rfl, hq⟩ := hv
  rw [WS_seq]
  refine WS_mono (dr_s3 (K := K) (ds := ds) hj hk hq) (fun v S' hv => ?_) fun _ _ h => h
  obtain ⟨q3, rfl, rfl⟩ := hv
  have s4 : small 27720 = true := (Sm.of 20 (b := 100000) (by omega)).small
  have key : ∀ (q : Int), WS (sSeq drS5 (sSeq drS6 sNil)) [some T, some (.int (k : Nat)), some M, some (.int 27720), some (.tuple (primes.map .int)), some (.int c), some (.int rest), some (.cell n), some (.int (j : Nat)), some (.int q)] S'
      (fun v S'' => ∃ (r' y : Int) (z9 : Option D), v = [some T, some (.int (k : Nat)), some M, some (.int 27720), some (.tuple (primes.map .int)), some (.int c), some (.int r'), some (.cell n), some (.int (j : Nat)), z9] ∧ S'' = S'.set n (.lst ((ds ++ [y]).map .int))) (fun _ _ => False) NE := fun q => by
    simp [drS5, drS6, s4]
    rw [W_push hn rfl (by rw [List.length_map]; omega)]
    exact ⟨q % 27720, by simp⟩
  by_cases hr : 0 < rest
  · simpa [drS4, hr] using key rest
  · simpa [drS4, hr] using key q3
/-- the bag of a turn -/
theorem m_draws {S : Store} {ns : List Int} {k : Nat} (hl : ns.length ≤ 63) (hk : k ≤ 100) : W (r__law_draws [script ns, .int (k : Nat), .int 150, .int 27720]) S (fun d S' => d = .cell S.length ∧ ∃ ds : List Int, S' = S ++ [.lst (ds.map .int)] ∧ ds.length ≤ 1000) NE := by
  unfold r__law_draws
  rw [W_fnF, dr_b]
  have h18 : gPow (.int 10) (.int 18) = pure (.int 1000000000000000000) := by
    unfold gPow
    dsimp only
    rw [if_pos (by decide)]
    rfl
  simp [N__law_draws, h18, -WS_for]
  refine W_mono (m_cell hl hk) (fun a S1 ha => ?_)
  obtain ⟨⟨c, rfl⟩, rfl⟩ := ha
  simp [-WS_for]
  have key : ∀ (rest : Int), WS (sFor (iRg (eVar 2)) (.name 8) drB) [some (script ns), some (.int (k : Nat)), some (.int 150), some (.int 27720), some (.tuple (primes.map .int)), some (.int c), some (.int rest), some (.cell S1.length), none, none] (S1 ++ [.lst []])
      (fun v S' => ∃ ds : List Int, v[7]?.getD none = some (.cell S1.length) ∧ S' = S1 ++ [.lst (ds.map .int)] ∧ ds.length ≤ 1000) (fun _ _ => False) NE := fun rest => by
    rw [WS_for]
    have e : iRg (eVar 2) [some (script ns), some (.int (k : Nat)), some (.int 150), some (.int 27720), some (.tuple (primes.map .int)), some (.int c), some (.int rest), some (.cell S1.length), none, none] = pure ⟨rangeDs 0 150, fun _ => true⟩ := toRng_n (n := 150) (by omega)
    rw [e, W_pure]
    refine WSF_inv (fun i v S' => ∃ (ds : List Int) (r : Int) (y8 y9 : Option D), v = [some (script ns), some (.int (k : Nat)), some (.int 150), some (.int 27720), some (.tuple (primes.map .int)), some (.int c), some (.int r), some (.cell S1.length), y8, y9] ∧ S' = S1 ++ [.lst (ds.map .int)] ∧ ds.length = i) (fun _ => rfl) (rangeDs 0 150) 0 _ _ (fun i d env S2 hd hinv => ?_) ⟨[], rest, none, none, rfl, rfl, rfl⟩ (fun v S2 hv => ?_)
    · obtain ⟨hi, rfl⟩ := range_at hd
      obtain ⟨ds, r, y8, y9, rfl, rfl, hlen⟩ := hinv
      have e7 : (S1 ++ [Cell.lst (ds.map D.int)])[S1.length]? = some (.lst (ds.map .int)) := by simp
      refine ⟨_, rfl, WS_mono (dr_body (K := .none) (ds := ds) e7 (by omega) (by omega) hk) (fun v S3 hv => ?_) fun _ _ h => h.elim⟩
      obtain ⟨r', y, z9, rfl, rfl⟩ := hv
      exact ⟨ds ++ [y], r', _, z9, rfl, by simp, by simp; omega⟩
    · obtain ⟨ds, r, y8, y9, rfl, rfl, hlen⟩ := hv
      rw [rangeDs_len] at hlen
      exact ⟨ds, rfl, rfl, by omega⟩
  have key2 : ∀ (rest : Int), WS (sFor (iRg (eVar 2)) (.name 8) drB) [some (script ns), some (.int (k : Nat)), some (.int 150), some (.int 27720), some (.tuple (primes.map .int)), some (.int c), some (.int rest), some (.cell S1.length), none, none] (S1 ++ [.lst []])
      (fun v S' => W (ofO (v[7]?.getD none)) S' (fun d S' => d = .cell S1.length ∧ ∃ ds : List Int, S' = S1 ++ [.lst (ds.map .int)] ∧ ds.length ≤ 1000) NE) (fun d S' => d = .cell S1.length ∧ ∃ ds : List Int, S' = S1 ++ [.lst (ds.map .int)] ∧ ds.length ≤ 1000) NE := fun rest => by
    refine WS_mono (key rest) (fun v S' hv => ?_) fun _ _ h => h.elim
    obtain ⟨ds, e, h1, h2⟩ := hv
    rw [e]
    exact ⟨rfl, ds, h1, h2⟩
  by_cases hc : 1000000000000000000 ≤ c
  · simp [hc, -WS_for]
    rw [W_new rfl]
    simpa [-WS_for, primes] using key2 c
  · simp [hc, -WS_for]
    rw [W_new rfl]
    simpa [-WS_for, primes] using key2 0
end Z
end
section
set_option maxHeartbeats 4000000
namespace Z
open PySem PySem.Spec L2
def hallB1 : BS := (sSeq (sSet 7 (e2 (g2 gAdd) (eC (.int 1)) (eCall 2 r__law_take (aCons (eVar 0) (aCons (eCB (c2 gMax2) (aCons (eC (.int 1)) (aCons (e2 (g2 gSub) (eVar 3) (eC (.int 1))) aNil))) aNil))))) (sSeq (sIf (bAnd (tB1 (e2 (g2 (gIn true)) (eVar 7) (eVar 4))) (tB1 (e2 (g2 gLt) (eVar 7) (eVar 3)))) (sSeq (sExpr (eApp (eVar 4) (eVar 7))) sNil) sNil) sNil))
def hallB2 : BS := (sSeq (sSet 8 (eCall 2 r__law_take (aCons (eVar 0) (aCons (e2 (g2 gAdd) (eVar 2) (eC (.int 1))) aNil)))) (sSeq (sExpr (eApp (eVar 5) (eTup (aCons (eVar 7) (aCons (eVar 8) (aCons (e2 (g2 gAdd) (eVar 8) (eCall 2 r__law_take (aCons (eVar 0) (aCons (e2 (g2 gAdd) (eCB (c2 gMin2) (aCons (e2 (g2 gSub) (eVar 2) (eVar 8)) (aCons (e2 (g2 gAdd) (eC (.int 2)) (e2 (g2 gDiv) (eVar 2) (eC (.int 2)))) aNil))) (eC (.int 1))) aNil)))) aNil)))))) sNil))
theorem hall_b (i : Nat) : b__law_hall i = (sSeq (sSet 2 (eCall 2 r__law_choice (aCons (eVar 0) (aCons (eLst (aCons (eC (.int 3)) (aCons (eC (.int 6)) (aCons (eC (.int 10)) (aCons (eC (.int 10)) (aCons (eC (.int 12)) (aCons (eC (.int 60)) aNil))))))) aNil)))) (sSeq (sSet 3 (e2 (g2 gSub) (eVar 2) (eCall 2 r__law_take (aCons (eVar 0) (aCons (eCB (c2 gMax2) (aCons (eC (.int 1)) (aCons (e2 (g2 gDiv) (eVar 2) (eC (.int 3))) aNil))) aNil))))) (sSeq (sPar 4 5 (eCel aNil) (eCel aNil)) (sSeq (sFor (iRg (eCall 2 r__law_take (aCons (eVar 0) (aCons (e2 (g2 gAdd) (eVar 1) (eC (.int 1))) aNil)))) (.name 6) hallB1) (sSeq (sFor (iSeq (eCB (c1 gSorted) (aCons (eVar 4) aNil))) (.name 7) hallB2) (sSeq (sRet (eTup (aCons (eVar 2) (aCons (eCB (c1 gTuple) (aCons (eVar 5) aNil)) (aCons (eVar 3) aNil))))) sNil)))))) := rfl
theorem Upd.app {S S' X : Store} {n : Nat} (hn : n < S.length) (h : Upd (S ++ X) n S') : ∃ T, Upd S n T ∧ S' = T ++ X := by
  obtain ⟨ns, rfl, hl⟩ := h
  exact ⟨S.set n (.lst (ns.map .int)), ⟨ns, rfl, hl⟩, by rw [List.set_append_left _ _ hn]⟩
theorem Bag.app {S X : Store} {n : Nat} (b : Bag S n) : Bag (S ++ X) n := by
  have hn := b.lt
  obtain ⟨ns, e, hl⟩ := b
  exact ⟨ns, by rw [List.getElem?_append_left hn]; exact e, hl⟩
theorem any_int {ps : List Int} {p : Int} : (ps.map D.int).any (fun z => eqD z (.int p)) = decide (p ∈ ps) := by
  induction ps with
  | nil => rfl
  | cons k ks ih =>
    rw [List.map_cons, List.any_cons, ih]
    simp only [eqD, List.mem_cons]
    by_cases h : k = p
    · simp [h]
    · have h' : ¬ p = k := fun z => h z.symm
      simp [h, h']
theorem gIn_int {ps : List Int} {p : Int} {neg : Bool} : gIn neg (.int p) (.list (ps.map .int)) = pure (.bool (neg ^^ decide (p ∈ ps))) := by
  unfold gIn
  dsimp only
  rw [if_pos ⟨by simp, okDs_int⟩, any_int]
theorem two_at {T : Store} {A B : Cell} {L : Nat} (h : T.length = L) : (T ++ [A, B])[L]? = some A ∧ (T ++ [A, B])[L + 1]? = some B ∧ (∀ C, (T ++ [A, B]).set L C = T ++ [C, B]) ∧ ∀ C, (T ++ [A, B]).set (L + 1) C = T ++ [A, C] := by
  subst h
  refine ⟨?_, ?_, fun C => ?_, fun C => ?_⟩
  · rw [List.getElem?_append_right (by omega)]; simp
  · rw [List.getElem?_append_right (by omega)]; simp
  · rw [List.set_append_right _ _ (by omega)]; simp
  · rw [List.set_append_right _ _ (by omega)]; simp
theorem hall_1 {T : Store} {n L : Nat} {hh e : Int} {M : D} {x6 x7 x8 : Option D} {ps : List Int} (b : Bag T n) (hL : T.length = L) (hlen : ps.length ≤ 100) (hnd : ps.Nodup) (hp : ∀ p ∈ ps, 1 ≤ p ∧ p ≤ e - 1) :
    WS hallB1 [some (.cell n), some M, some (.int hh), some (.int e), some (.cell L), some (.cell (L + 1)), x6, x7, x8] (T ++ [.lst (ps.map .int), .lst []])
      (fun v S' => ∃ (T' : Store) (ps' : List Int) (y7 : Option D), Upd T n T' ∧ S' = T' ++ [.lst (ps'.map .int), .lst []] ∧ v = [some (.cell n), some M, some (.int hh), some (.int e), some (.cell L), some (.cell (L + 1)), x6, y7, x8] ∧ ps'.Nodup ∧ (∀ p ∈ ps', 1 ≤ p ∧ p ≤ e - 1) ∧ ps'.length ≤ ps.length + 1) (fun _ _ => False) NE := by
  simp [hallB1]
  refine W_mono (m_take b.app (by split <;> omega)) (fun a S' ha => ?_)
  obtain ⟨⟨i, rfl, h0, h1⟩, hu⟩ := ha
  obtain ⟨T', hu', rfl⟩ := hu.app b.lt
  have hL' : T'.length = L := by rw [hu'.len]; exact hL
  obtain ⟨e1, e2, s1, s2⟩ := two_at (A := .lst (ps.map .int)) (B := .lst []) hL'
  simp [W_rd e1, gIn_int]
  by_cases hm : 1 + i ∈ ps
  · simp [hm]
    exact ⟨T', hu', ps, rfl, hnd, fun p hp' => by have := hp p hp'; omega, by omega⟩
  · by_cases hlt : 1 + i < e
    · simp [hm, hlt]
      rw [W_push e1 rfl (by rw [List.length_map]; omega), s1]
      refine ⟨T', hu', ps ++ [1 + i], by simp, ?_, fun p hp' => ?_, by simp⟩
      · rw [List.nodup_append]
        refine ⟨hnd, by simp, fun a ha c hc => ?_⟩
        simp at hc
        subst hc
        exact fun z => hm (z ▸ ha)
      · rcases List.mem_append.mp hp' with hp' | hp'
        · exact hp p hp'
        · simp at hp'
          omega
    · simp [hm, hlt]
      exact ⟨T', hu', ps, rfl, hnd, fun p hp' => by have := hp p hp'; omega, by omega⟩
theorem hall_2 {T : Store} {n L : Nat} {hh e p : Int} {M : D} {A : Cell} {x6 x8 : Option D} {ms : List D} (b : Bag T n) (hL : T.length = L) (hlen : ms.length ≤ 100) (h3 : 0 ≤ hh) (hp : 1 ≤ p ∧ p ≤ e - 1) :
    WS hallB2 [some (.cell n), some M, some (.int hh), some (.int e), some (.cell L), some (.cell (L + 1)), x6, some (.int p), x8] (T ++ [A, .lst ms])
      (fun v S' => ∃ (T' : Store) (lo to : Int) (y8 : Option D), Upd T n T' ∧ S' = T' ++ [A, .lst (ms ++ [.tuple [.int p, .int lo, .int to]])] ∧ v = [some (.cell n), some M, some (.int hh), some (.int e), some (.cell L), some (.cell (L + 1)), x6, some (.int p), y8] ∧ 0 ≤ lo ∧ lo ≤ to ∧ to ≤ hh) (fun _ _ => False) NE := by
  have s2 : small 2 = true := (Sm.of 20 (b := 1000) (by omega)).small
  simp [hallB2, s2]
  refine W_mono (m_take b.app (by omega)) (fun a S' ha => ?_)
  obtain ⟨⟨i, rfl, h0, h1⟩, hu⟩ := ha
  obtain ⟨T1, hu1, rfl⟩ := hu.app b.lt
  simp
  refine W_mono (m_take (b.upd hu1).app (by split <;> omega)) (fun a S' ha => ?_)
  obtain ⟨⟨j, rfl, g0, g1⟩, hu⟩ := ha
  obtain ⟨T2, hu2, rfl⟩ := hu.app (b.upd hu1).lt
  have hL' : T2.length = L := by rw [hu2.len, hu1.len]; exact hL
  obtain ⟨e1, e2, s1, s2⟩ := two_at (A := A) (B := .lst ms) hL'
  simp
  rw [W_push e2 rfl (by omega), s2]
  refine ⟨T2, hu1.trans hu2, i, i + j, rfl, h0, by omega, ?_⟩
  split at g1 <;> omega
theorem incr_of : ∀ {ms : List D}, (ms.map fst0).Pairwise (· < ·) → incr ms = true
  | [], _ => rfl
  | [a], _ => rfl
  | a :: b :: r, h => by
    simp only [List.map_cons, List.pairwise_cons] at h
    rw [incr, Bool.and_eq_true]
    exact ⟨by simpa using h.1 (fst0 b) (by simp), incr_of (by simpa using h.2)⟩
theorem sortI_lt {ps : List Int} (h : ps.Nodup) : (sortI ps).Pairwise (· < ·) := by
  have h1 := sortI_sorted ps
  have h2 : (sortI ps).Nodup := (sortI_perm ps).nodup_iff.mpr h
  have := h1.and h2
  exact this.imp fun ⟨a, b⟩ => by omega
theorem intsD_map {ns : List Int} : intsD (ns.map .int) = some ns := by
  induction ns with
  | nil => rfl
  | cons n ns ih => rw [List.map_cons, intsD, ih]; rfl
theorem gSorted_i {ns : List Int} : gSorted (.list (ns.map .int)) = pure (.list ((sortI ns).map .int)) := by
  unfold gSorted
  dsimp only
  rw [intsD_map]
  rfl
/-- what a drawn hall is -/
def DHall (d : D) (m : Int) : Prop := isHall d = true ∧ ∃ (hh e : Int) (ws : List D), d = .tuple [.int hh, .tuple ws, .int e] ∧ (hh = 3 ∨ hh = 6 ∨ hh = 10 ∨ hh = 12 ∨ hh = 60) ∧ 3 ≤ e ∧ e ≤ hh ∧ ws.length ≤ m
theorem m_hall {S : Store} {n : Nat} {m : Int} (b : Bag S n) (h0 : 0 ≤ m) (h3 : m ≤ 3) : W (r__law_hall [.cell n, .int m]) S (fun d S' => DHall d m ∧ Upd S n S') NE := by
  unfold r__law_hall
  rw [W_fnT, hall_b]
  have s3 : small 3 = true := (Sm.of 20 (b := 1000) (by omega)).small
  simp [N__law_hall, s3]
  refine W_mono (m_choice (xs := [.int 3, .int 6, .int 10, .int 10, .int 12, .int 60]) b (by decide) rfl) (fun a S1 ha => ?_)
  obtain ⟨ha, hu1⟩ := ha
  have hh : ∃ h : Int, a = .int h ∧ (h = 3 ∨ h = 6 ∨ h = 10 ∨ h = 12 ∨ h = 60) := by
    simp at ha
    rcases ha with rfl | rfl | rfl | rfl | rfl <;> exact ⟨_, rfl, by omega⟩
  obtain ⟨h, rfl, hv⟩ := hh
  simp
  have b1 := b.upd hu1
  refine ⟨s3, ?_⟩
  refine W_mono (m_take b1 ?m) (fun a S2 ha => ?_)
  case m => split <;> omega
  obtain ⟨⟨i, rfl, i0, i1⟩, hu2⟩ := ha
  have he : 3 ≤ h - i ∧ h - i ≤ h := by
    split at i1 <;> omega
  have b2 := b1.upd hu2
  simp
  generalize h - i = e at he ⊢
  rw [W_new rfl, W_new rfl]
  have hL : S2.length = S.length := by rw [hu2.len, hu1.len]
  simp [hL]
  refine W_mono (m_take b2.app (by omega)) (fun a S3 ha => ?_)
  obtain ⟨⟨k, rfl, k0, k1⟩, hu⟩ := ha
  obtain ⟨T, hu3, rfl⟩ := hu.app b2.lt
  have uT : Upd S n T := hu1.trans (hu2.trans hu3)
  have lT : T.length = S.length := uT.len
  have bT : Bag T n := b.upd uT
  clear hu hu1 hu2 hu3 b1 b2 i0 i1 ha
  obtain ⟨k, rfl⟩ : ∃ k' : Nat, k = k' := ⟨k.toNat, by omega⟩
  rw [toRng_n (by omega), W_pure]
  dsimp only
  refine WSF_inv (fun i v S' => ∃ (T' : Store) (ps : List Int) (y6 y7 : Option D), v = [some (.cell n), some (.int m), some (.int h), some (.int e), some (.cell S.length), some (.cell (S.length + 1)), y6, y7, none] ∧ S' = T' ++ [.lst (ps.map .int), .lst []] ∧ Upd S n T' ∧ ps.Nodup ∧ (∀ p ∈ ps, 1 ≤ p ∧ p ≤ e - 1) ∧ ps.length ≤ i) (fun _ => rfl) (rangeDs 0 k) 0 _ _ (fun i d env S3 hd hinv => ?_) ⟨T, [], none, none, rfl, rfl, uT, List.nodup_nil, by simp, by simp⟩ (fun v S3 hv => ?_)
  · obtain ⟨hi, rfl⟩ := range_at hd
    obtain ⟨T', ps, y6, y7, rfl, rfl, hu, hnd, hp, hlen⟩ := hinv
    refine ⟨_, rfl, WS_mono (hall_1 (M := .int m) (b.upd hu) hu.len (by omega) hnd hp) (fun v S4 hv => ?_) fun _ _ h => h.elim⟩
    obtain ⟨T2, ps2, y7', hu2, rfl, rfl, h1, h2, h3⟩ := hv
    exact ⟨T2, ps2, _, y7', rfl, rfl, hu.trans hu2, h1, h2, by omega⟩
  · obtain ⟨T', ps, y6, y7, rfl, rfl, hu, hnd, hp, hlen⟩ := hv
    rw [rangeDs_len] at hlen
    obtain ⟨e1, e2, s1, s2⟩ := two_at (A := .lst (ps.map .int)) (B := .lst []) hu.len
    simp [W_rd e1, gSorted_i]
    have pm : (sortI ps).length = ps.length := (sortI_perm ps).length_eq
    refine WSF_inv (fun i v S' => ∃ (T' : Store) (ms : List D) (y6 y7 y8 : Option D), v = [some (.cell n), some (.int m), some (.int h), some (.int e), some (.cell S.length), some (.cell (S.length + 1)), y6, y7, y8] ∧ S' = T' ++ [.lst (ps.map .int), .lst ms] ∧ Upd S n T' ∧ ms.map fst0 = (sortI ps).take i ∧ (∀ w ∈ ms, isWall h e w = true) ∧ ms.length = i) (fun _ => rfl) ((sortI ps).map .int) 0 _ _ (fun i d env S3 hd hinv => ?_) ⟨T', [], _, _, _, rfl, rfl, hu, rfl, by simp, by simp⟩ (fun v S3 hv => ?_)
    · rw [List.getElem?_map] at hd
      obtain ⟨p, hpi, rfl⟩ := Option.map_eq_some_iff.mp hd
      have hil := (List.getElem?_eq_some_iff.mp hpi).1
      obtain ⟨T1, ms, z6, z7, z8, rfl, rfl, hu1, hm1, hm2, hm3⟩ := hinv
      have pp := hp p ((sortI_perm ps).mem_iff.mp (List.mem_of_getElem? hpi))
      refine ⟨_, rfl, WS_mono (hall_2 (M := .int m) (b.upd hu1) hu1.len (by omega) (by omega) pp) (fun v S4 hv => ?_) fun _ _ h => h.elim⟩
      obtain ⟨T2, lo, to, y8', hu2, rfl, rfl, l0, l1, l2⟩ := hv
      refine ⟨T2, _, _, _, y8', rfl, rfl, hu1.trans hu2, ?_, fun w hw => ?_, by simp; omega⟩
      · rw [List.map_append, hm1, Nat.zero_add, List.take_add_one, hpi]
        rfl
      · rcases List.mem_append.mp hw with hw | hw
        · exact hm2 w hw
        · simp only [List.mem_singleton] at hw
          subst hw
          simp [isWall, isWhole]
          omega
    · obtain ⟨T1, ms, z6, z7, z8, rfl, rfl, hu1, hm1, hm2, hm3⟩ := hv
      rw [List.length_map] at hm1 hm3
      obtain ⟨e1, e2, s1, s2⟩ := two_at (A := .lst (ps.map .int)) (B := .lst ms) hu1.len
      simp [W_rd e2, gTuple]
      have hfix : fixDs ms = true := by
        clear hm1 hm3 e1 e2 s1 s2
        induction ms with
        | nil => rfl
        | cons w ms ih =>
          rw [fixDs, ih fun w hw => hm2 w (List.mem_cons_of_mem _ hw), Bool.and_true]
          have hw := hm2 w (by simp)
          unfold isWall at hw
          split at hw
          · rename_i a b c
            cases a <;> cases b <;> cases c <;> simp [isWhole] at hw <;> rfl
          · cases hw
      rw [W_endT (by simp [fixD, fixDs, hfix])]
      have hlT : (T1 ++ [Cell.lst (ps.map .int), .lst ms]).take S.length = T1 := by
        rw [← hu1.len]; simp
      rw [hlT]
      refine ⟨⟨?_, h, e, ms, rfl, hv, he.1, he.2, by omega⟩, hu1⟩
      have hi := incr_of (ms := ms) (by rw [hm1, Nat.zero_add, List.take_of_length_le (by omega)]; exact sortI_lt hnd)
      have : ms.all (isWall h e) = true := List.all_eq_true.mpr hm2
      have b1 : 1 ≤ h ∧ h ≤ 60 := by omega
      have b2 : 1 ≤ e ∧ e ≤ h := by omega
      have b3 : ms.length ≤ 3 := by omega
      simp only [isHall, b1, b2, b3, this, hi]
      rfl
end Z
end
section
set_option maxHeartbeats 4000000
namespace Z
open PySem PySem.Spec L2
def heiB1 : BS := (sSeq (sPar 3 7 (e2 (g2 gAdd) (eVar 3) (e2 (g2 gMul) (e2 (g2 gIx) (eVar 0) (eC (.int 0))) (eVar 4))) (e2 (g2 gSub) (eVar 7) (eC (.int 1)))) sNil)
def heiB2 : BS := (sSeq (sPar 3 7 (e2 (g2 gSub) (eVar 3) (e2 (g2 gMul) (e2 (g2 gIx) (eVar 0) (eC (.int 0))) (eVar 4))) (e2 (g2 gAdd) (eVar 7) (eC (.int 1)))) sNil)
/-- a fraction in lowest terms -/
def lowT (t b : Int) : Int := t / (Int.gcd t b : Nat)
def lowB (t b : Int) : Int := b / (Int.gcd t b : Nat)
def lowD (t b : Int) : D := .tuple [.int (lowT t b), .int (lowB t b)]
section
variable {Y : List D} {R Pl x5 x6 : Option D} {hh bw : Int} {Pn : Ev → Store → Prop} {Pr : D → Store → Prop}
theorem hei_1 (hq : 0 < hh * bw) (s1 : small hh = true) (s2 : small bw = true) : ∀ (n : Nat) (top fo : Int) (S : Store), -((n : Int) * (hh * bw)) ≤ top →
    (∀ top' fo' : Int, top' + fo' * (hh * bw) = top + fo * (hh * bw) → 0 ≤ top' → (top' < hh * bw ∨ top' = top) → Pn [some (.tuple (.int hh :: Y)), R, Pl, some (.int top'), some (.int bw), x5, x6, some (.int fo')] S) →
    WS (whileM (tB1 (e2 (g2 gLt) (eVar 3) (eC (.int 0)))) heiB1 (n + 1)) [some (.tuple (.int hh :: Y)), R, Pl, some (.int top), some (.int bw), x5, x6, some (.int fo)] S Pn Pr NE
  | n, top, fo, S, h, k => by
    refine WSW ?_
    by_cases ht : top < 0
    · cases n with
      | zero => simp at h; omega
      | succ n =>
        have e : ((n + 1 : Nat) : Int) * (hh * bw) = (n : Int) * (hh * bw) + hh * bw := by
          rw [Int.natCast_add, Int.add_mul]; simp
        simp [heiB1, ht, at0, s1, s2]
        refine hei_1 hq s1 s2 n (top + hh * bw) (fo - 1) S (by omega) fun top' fo' h1 h2 h3 => k top' fo' ?_ h2 ?_
        · rw [h1, Int.sub_mul]; omega
        · left; omega
    · simp [ht]
      exact k top fo rfl (by omega) (.inr rfl)
theorem hei_2 (hq : 0 < hh * bw) (s1 : small hh = true) (s2 : small bw = true) : ∀ (n : Nat) (top fo : Int) (S : Store), 0 ≤ top → top < (n : Int) * (hh * bw) + hh * bw →
    (∀ top' fo' : Int, top' + fo' * (hh * bw) = top + fo * (hh * bw) → 0 ≤ top' → top' < hh * bw → Pn [some (.tuple (.int hh :: Y)), R, Pl, some (.int top'), some (.int bw), x5, x6, some (.int fo')] S) →
    WS (whileM (tB1 (e2 (g2 gGe) (eVar 3) (e2 (g2 gMul) (e2 (g2 gIx) (eVar 0) (eC (.int 0))) (eVar 4)))) heiB2 (n + 1)) [some (.tuple (.int hh :: Y)), R, Pl, some (.int top), some (.int bw), x5, x6, some (.int fo)] S Pn Pr NE
  | n, top, fo, S, h0, h, k => by
    refine WSW ?_
    by_cases ht : hh * bw ≤ top
    · cases n with
      | zero => simp at h; omega
      | succ n =>
        have e : ((n + 1 : Nat) : Int) * (hh * bw) = (n : Int) * (hh * bw) + hh * bw := by
          rw [Int.natCast_add, Int.add_mul]; simp
        simp [heiB2, ht, at0, s1, s2]
        refine hei_2 hq s1 s2 n (top - hh * bw) (fo + 1) S (by omega) (by omega) fun top' fo' h1 h2 h3 => k top' fo' ?_ h2 h3
        rw [h1, Int.add_mul]; omega
    · simp [ht, at0, s1, s2]
      exact k top fo rfl (by omega) (by omega)
end
/-- the height of a level t / b, folded -/
def foldD (hh t b : Int) : D := lowD (if t / (hh * b) % 2 = 0 then t - t / (hh * b) * (hh * b) else (t / (hh * b) + 1) * (hh * b) - t) b
/-- (band, height) at a level -/
def hgtD (hh t b : Int) : D := .tuple [.int (t / (hh * b)), foldD hh t b]
theorem low_pos {t b : Int} (h : 0 < b) : 0 < lowB t b := by
  have hd : ((Int.gcd t b : Nat) : Int) ∣ b := Int.gcd_dvd_right ..
  have hg : 0 < Int.gcd t b := Int.gcd_pos_iff.mpr (.inr (by omega))
  exact Int.ediv_pos_of_pos_of_dvd h (by omega) hd
theorem low_mul (t b : Int) : lowT t b * (Int.gcd t b : Nat) = t ∧ lowB t b * (Int.gcd t b : Nat) = b := ⟨Int.ediv_mul_cancel (Int.gcd_dvd_left ..), Int.ediv_mul_cancel (Int.gcd_dvd_right ..)⟩
theorem Sm.low {t b : Int} {k : Nat} (h : 0 < b) (hk : Sm k b) : Sm k (lowB t b) := by
  have h1 := low_pos (t := t) h
  have h2 : lowB t b ≤ b := Int.ediv_le_self _ (by omega)
  unfold Sm at *
  omega
end Z
end
section
set_option maxHeartbeats 4000000
namespace Z
open PySem PySem.Spec L2
theorem low_gcd {t b : Int} (h : 0 < b) : Int.gcd (lowT t b) (lowB t b) = 1 := by
  have hg : 0 < Int.gcd t b := Int.gcd_pos_iff.mpr (.inr (by omega))
  exact Int.gcd_ediv_gcd_ediv_gcd hg
theorem low_le {t b : Int} (h : 0 < b) : lowB t b ≤ b := Int.ediv_le_self _ (by omega)
/-- bounds of a fraction stand for its lowest terms -/
theorem low_ge {t b k : Int} (h : 0 < b) (hk : k * b ≤ t) : k * lowB t b ≤ lowT t b := by
  obtain ⟨m1, m2⟩ := low_mul t b
  have hg : 0 < Int.gcd t b := Int.gcd_pos_iff.mpr (.inr (by omega))
  refine Int.le_of_mul_le_mul_right (a := ((Int.gcd t b : Nat) : Int)) ?_ (by omega)
  rw [Int.mul_assoc, m1, m2]
  exact hk
theorem low_lt {t b k : Int} (h : 0 < b) (hk : t ≤ k * b) : lowT t b ≤ k * lowB t b := by
  obtain ⟨m1, m2⟩ := low_mul t b
  have hg : 0 < Int.gcd t b := Int.gcd_pos_iff.mpr (.inr (by omega))
  refine Int.le_of_mul_le_mul_right (a := ((Int.gcd t b : Nat) : Int)) ?_ (by omega)
  rw [Int.mul_assoc, m1, m2]
  exact hk
def foldF (hh t b : Int) : Int := if t / (hh * b) % 2 = 0 then t - t / (hh * b) * (hh * b) else (t / (hh * b) + 1) * (hh * b) - t
theorem foldD_eq {hh t b : Int} : foldD hh t b = lowD (foldF hh t b) b := rfl
theorem fold_bd {hh t b : Int} (h : 0 < hh * b) : 0 ≤ foldF hh t b ∧ foldF hh t b ≤ hh * b := by
  unfold foldF
  generalize hh * b = q at h ⊢
  have h1 := Int.ediv_mul_le t (show q ≠ 0 by omega)
  have h2 := Int.lt_ediv_add_one_mul_self t h
  rw [Int.add_mul] at h2
  split
  · omega
  · rw [Int.add_mul]; omega
theorem Sm.le {k : Nat} {a b : Int} (hb : Sm k b) (h0 : 0 ≤ a) (h : a ≤ b) : Sm k a := by
  unfold Sm at *
  omega
/-- the ray's level at a place -/
def levT (t b r l p : Int) : Int := lowT (t * l + r * p * b) (b * l)
def levB (t b r l p : Int) : Int := lowB (t * l + r * p * b) (b * l)
def evD (k : Str) (b : Int) : D := .tuple [.str k, .int b]
/-- (word, place of the end, height there) -/
def runD (hh e t b r l : Int) : List D → List D → D
  | acc, .tuple [.int p, .int lo, .int to] :: ws =>
    if lowT (foldF hh (levT t b r l p) (levB t b r l p)) (levB t b r l p) < lo * lowB (foldF hh (levT t b r l p) (levB t b r l p)) (levB t b r l p) then
      .tuple [.tuple (acc ++ [evD "under" (levT t b r l p / (hh * levB t b r l p))]), .int p, foldD hh (levT t b r l p) (levB t b r l p)]
    else if to * lowB (foldF hh (levT t b r l p) (levB t b r l p)) (levB t b r l p) < lowT (foldF hh (levT t b r l p) (levB t b r l p)) (levB t b r l p) then
      .tuple [.tuple (acc ++ [evD "over" (levT t b r l p / (hh * levB t b r l p))]), .int p, foldD hh (levT t b r l p) (levB t b r l p)]
    else runD hh e t b r l (acc ++ [evD "through" (levT t b r l p / (hh * levB t b r l p))]) ws
  | acc, _ => .tuple [.tuple (acc ++ [evD "screen" (levT t b r l e / (hh * levB t b r l e))]), .int e, foldD hh (levT t b r l e) (levB t b r l e)]
theorem runD_nil {hh e t b r l : Int} {acc : List D} : runD hh e t b r l acc [] = .tuple [.tuple (acc ++ [evD "screen" (levT t b r l e / (hh * levB t b r l e))]), .int e, foldD hh (levT t b r l e) (levB t b r l e)] := by simp [runD]
/-- a ray within a hall, with numbers that are not too long -/
structure RayOk (hh t b r l : Int) : Prop where
  h1 : 1 ≤ hh
  h2 : hh ≤ 60
  b1 : 1 ≤ b
  l1 : 1 ≤ l
  sb : Sm 500 b
  sl : Sm 500 l
  t1 : 0 ≤ t
  t2 : t ≤ hh * b
  r1 : -l ≤ r
  r2 : r ≤ l
section
variable {hh t b r l : Int}
theorem RayOk.bl (R : RayOk hh t b r l) : 0 < b * l := Int.mul_pos (by have := R.b1; omega) (by have := R.l1; omega)
theorem RayOk.st (R : RayOk hh t b r l) : Sm 510 t := by
  have h : Sm (6 + 500) (hh * b) := Sm.mul (.of 6 (b := 60) (by have := R.h1; have := R.h2; omega)) R.sb
  exact (Sm.le h R.t1 R.t2).mono
theorem RayOk.sr (R : RayOk hh t b r l) : Sm 500 r := by
  have := R.sl; have := R.r1; have := R.r2; have := R.l1
  unfold Sm at *
  omega
/-- the level at a place p lies between -p and hh + p -/
theorem RayOk.lev (R : RayOk hh t b r l) {p : Int} (hp : 0 ≤ p) : -p * (b * l) ≤ t * l + r * p * b ∧ t * l + r * p * b ≤ (hh + p) * (b * l) := by
  have a1 : 0 ≤ t * l := Int.mul_nonneg R.t1 (by have := R.l1; omega)
  have a2 : t * l ≤ hh * b * l := Int.mul_le_mul_of_nonneg_right R.t2 (by have := R.l1; omega)
  have hpb : 0 ≤ p * b := Int.mul_nonneg hp (by have := R.b1; omega)
  have a3 : -l * (p * b) ≤ r * (p * b) := Int.mul_le_mul_of_nonneg_right R.r1 hpb
  have a4 : r * (p * b) ≤ l * (p * b) := Int.mul_le_mul_of_nonneg_right R.r2 hpb
  have e1 : -p * (b * l) = -l * (p * b) := by grind
  have e2 : (hh + p) * (b * l) = hh * b * l + l * (p * b) := by grind
  have e3 : r * p * b = r * (p * b) := by grind
  rw [e1, e2, e3]
  omega
theorem RayOk.levB (R : RayOk hh t b r l) {p : Int} : 0 < levB t b r l p ∧ Sm 1000 (Z.levB t b r l p) := by
  have hbl := R.bl
  exact ⟨low_pos hbl, Sm.low hbl (R.sb.mul R.sl)⟩
theorem RayOk.q (R : RayOk hh t b r l) {p : Int} : 0 < hh * Z.levB t b r l p := Int.mul_pos (by have := R.h1; omega) R.levB.1
theorem RayOk.band (R : RayOk hh t b r l) {p : Int} (hp : 0 ≤ p) (hp2 : p ≤ hh) : -1 ≤ levT t b r l p / (hh * Z.levB t b r l p) ∧ levT t b r l p / (hh * Z.levB t b r l p) ≤ 2 := by
  obtain ⟨h1, h2⟩ := R.lev hp
  have hbl := R.bl
  have g1 := low_ge hbl h1
  have g2 := low_lt hbl h2
  have hq := R.q (p := p)
  have lb := (R.levB (p := p)).1
  show -1 ≤ levT t b r l p / (hh * Z.levB t b r l p) ∧ levT t b r l p / (hh * Z.levB t b r l p) ≤ 2
  change -p * Z.levB t b r l p ≤ levT t b r l p at g1
  change levT t b r l p ≤ (hh + p) * Z.levB t b r l p at g2
  generalize Z.levB t b r l p = B at *
  generalize levT t b r l p = T at *
  have k1 : p * B ≤ hh * B := Int.mul_le_mul_of_nonneg_right hp2 (by omega)
  rw [Int.add_mul] at g2
  rw [Int.neg_mul] at g1
  have k2 : T < 3 * (hh * B) := by omega
  have k3 : -1 * (hh * B) ≤ T := by omega
  have := Int.ediv_lt_of_lt_mul hq k2
  exact ⟨Int.le_ediv_of_mul_le hq k3, by omega⟩
theorem RayOk.fold (R : RayOk hh t b r l) {p : Int} : 0 ≤ lowT (foldF hh (levT t b r l p) (Z.levB t b r l p)) (Z.levB t b r l p) ∧ Sm 1010 (lowT (foldF hh (levT t b r l p) (Z.levB t b r l p)) (Z.levB t b r l p)) ∧ 0 < lowB (foldF hh (levT t b r l p) (Z.levB t b r l p)) (Z.levB t b r l p) ∧ Sm 1000 (lowB (foldF hh (levT t b r l p) (Z.levB t b r l p)) (Z.levB t b r l p)) ∧
    lowT (foldF hh (levT t b r l p) (Z.levB t b r l p)) (Z.levB t b r l p) ≤ hh * lowB (foldF hh (levT t b r l p) (Z.levB t b r l p)) (Z.levB t b r l p) := by
  obtain ⟨lb, sb⟩ := R.levB (p := p)
  obtain ⟨f1, f2⟩ := fold_bd (t := levT t b r l p) (R.q (p := p))
  have g1 := low_ge (k := 0) lb (by rw [Int.zero_mul]; exact f1)
  have g2 := low_lt lb f2
  rw [Int.zero_mul] at g1
  have c1 := Sm.low (t := foldF hh (levT t b r l p) (Z.levB t b r l p)) lb sb
  have h : Sm (6 + 1000) (hh * lowB (foldF hh (levT t b r l p) (Z.levB t b r l p)) (Z.levB t b r l p)) := Sm.mul (.of 6 (b := 60) (by have := R.h1; have := R.h2; omega)) c1
  exact ⟨g1, (Sm.le h g1 g2).mono, low_pos lb, c1, g2⟩
theorem wall_int {h e : Int} {v : D} (w : isWall h e v = true) : ∃ p lo to : Int, v = .tuple [.int p, .int lo, .int to] ∧ 1 ≤ p ∧ p ≤ e - 1 ∧ 0 ≤ lo ∧ lo ≤ to ∧ to ≤ h := by
  unfold isWall at w
  split at w
  · rename_i a b c
    cases a <;> cases b <;> cases c <;> simp [isWhole] at w
    exact ⟨_, _, _, rfl, by omega⟩
  · cases w
theorem fixs_of {xs : List D} (h : ∀ w ∈ xs, fixD w = true) : fixDs xs = true := by
  rw [fixs_all]; exact List.all_eq_true.mpr h
theorem run_fix {e : Int} : ∀ (ws acc : List D), fixDs acc = true → fixD (runD hh e t b r l acc ws) = true := by
  intro ws
  induction ws with
  | nil => intro acc h; simp [runD, h, evD, foldD_eq, lowD]
  | cons w ws ih =>
    intro acc h
    unfold runD
    split
    · split
      · simp [h, evD, foldD_eq, lowD]
      · split
        · simp [h, evD, foldD_eq, lowD]
        · rename_i e1 _ _
          simp at e1
          obtain ⟨_, rfl⟩ := e1
          exact ih _ (by simp [h, evD])
    · simp [h, evD, foldD_eq, lowD]
/-! ### what a drawn ray is -/
theorem frac_low {t b : Int} (h : 0 < b) (hb : b ≤ 1000000) (h1 : -1000000 ≤ t) (h2 : t ≤ 1000000) : isFrac (lowD t b) = true := by
  have l1 := low_pos (t := t) h
  have l2 := low_le (t := t) h
  have gc := low_gcd (t := t) h
  have m := (low_mul t b).1
  have hg : 0 < Int.gcd t b := Int.gcd_pos_iff.mpr (.inr (by omega))
  have a0 : (lowT t b).natAbs ≤ t.natAbs := by
    have h3 := congrArg Int.natAbs m
    rw [Int.natAbs_mul, Int.natAbs_natCast] at h3
    have h4 := Nat.mul_le_mul_left (lowT t b).natAbs hg
    omega
  simp [isFrac, lowD, gc]
  omega
def DRay (hh : Int) (d : D) : Prop := isRay hh d = true ∧ ∃ t b r l : Int, d = .tuple [.tuple [.int t, .int b], .tuple [.int r, .int l]] ∧ RayOk hh t b r l ∧ b ≤ 4 ∧ l ≤ 6 ∧ Int.gcd t b = 1 ∧ Int.gcd r l = 1
local macro_rules | `(tactic| trivial) => `(tactic| repeat (first
  | with_reducible refine w_bind ?_
  | with_reducible refine w_pure ?_
  | ((with_reducible apply w_var); · rfl)
  | with_reducible refine w_c ?_
  | with_reducible refine w_e2 ?_
  | with_reducible refine w_e1 ?_
  | with_reducible refine w_g2 ?_
  | with_reducible refine w_g1 ?_
  | with_reducible refine w_rd_i ?_
  | with_reducible refine w_rd_b ?_
  | with_reducible refine w_rd_s ?_
  | with_reducible refine w_rd_n ?_
  | with_reducible refine w_rd_t ?_
  | with_reducible refine w_rd_l ?_
  | with_reducible refine w_rd_f ?_
  | with_reducible refine w_rd_fn ?_
  | ((with_reducible apply w_rd_c); · assumption)
  | ((with_reducible apply w_rd_ok); · assumption)
  | with_reducible refine w_aNil ?_
  | with_reducible refine w_aCons ?_
  | with_reducible refine w_eTup ?_
  | with_reducible refine w_eLst ?_
  | with_reducible refine w_eCel ?_
  | ((with_reducible apply w_new); · first | rfl | assumption | (simp; done))
  | ((with_reducible apply len_ok); · rfl)
  | with_reducible refine w_eCall ?_
  | ((with_reducible apply len_eq); · rfl)
  | with_reducible refine w_eCB ?_
  | with_reducible refine w_c1 ?_
  | with_reducible refine w_c2 ?_
  | with_reducible refine w_eAnd ?_
  | with_reducible refine w_eOr ?_
  | with_reducible refine w_eNot ?_
  | with_reducible refine w_toBool ?_
  | with_reducible refine w_eIf ?_
  | with_reducible refine w_bTru ?_
  | with_reducible refine w_tru_b ?_
  | with_reducible refine w_tru_n ?_
  | with_reducible refine w_tru_i ?_
  | with_reducible refine w_tru_t ?_
  | with_reducible refine w_tru_l ?_
  | with_reducible refine w_tB1 ?_
  | with_reducible refine w_oB ?_
  | with_reducible refine w_bNot ?_
  | with_reducible refine w_bAnd ?_
  | with_reducible refine w_bOr ?_
  | with_reducible refine w_bYes ?_
  | with_reducible refine w_eChain ?_
  | with_reducible refine w_eIsi ?_
  | (first | with_reducible refine w_is_int_i ?_ | with_reducible refine w_is_int_t ?_ | with_reducible refine w_is_int_s ?_ | with_reducible refine w_is_int_n ?_ | with_reducible refine w_is_int_l ?_ | with_reducible refine w_is_int_b ?_)
  | ((with_reducible apply w_is_int_ok); · assumption)
  | (first | with_reducible refine w_is_bool_i ?_ | with_reducible refine w_is_bool_t ?_ | with_reducible refine w_is_bool_s ?_ | with_reducible refine w_is_bool_n ?_ | with_reducible refine w_is_bool_l ?_ | with_reducible refine w_is_bool_b ?_)
  | ((with_reducible apply w_is_bool_ok); · assumption)
  | (first | with_reducible refine w_is_str_i ?_ | with_reducible refine w_is_str_t ?_ | with_reducible refine w_is_str_s ?_ | with_reducible refine w_is_str_n ?_ | with_reducible refine w_is_str_l ?_ | with_reducible refine w_is_str_b ?_)
  | ((with_reducible apply w_is_str_ok); · assumption)
  | (first | with_reducible refine w_is_list_i ?_ | with_reducible refine w_is_list_t ?_ | with_reducible refine w_is_list_s ?_ | with_reducible refine w_is_list_n ?_ | with_reducible refine w_is_list_l ?_ | with_reducible refine w_is_list_b ?_)
  | ((with_reducible apply w_is_list_ok); · assumption)
  | (first | with_reducible refine w_is_tuple_i ?_ | with_reducible refine w_is_tuple_t ?_ | with_reducible refine w_is_tuple_s ?_ | with_reducible refine w_is_tuple_n ?_ | with_reducible refine w_is_tuple_l ?_ | with_reducible refine w_is_tuple_b ?_)
  | ((with_reducible apply w_is_tuple_ok); · assumption)
  | with_reducible refine w_add ?_
  | ((with_reducible apply w_addT); · first | omega | (simp; omega) | (simp; done))
  | ((with_reducible apply w_addL); · first | omega | (simp; omega) | (simp; done))
  | ((with_reducible apply w_addC); · first | omega | (simp; omega) | (simp; done))
  | with_reducible refine w_sub ?_
  | with_reducible refine w_addB ?_
  | with_reducible refine w_subB ?_
  | ((with_reducible apply w_mul); (· (first | assumption | (refine sm_om ?_; omega))); · (first | assumption | (refine sm_om ?_; omega)))
  | ((with_reducible apply w_div); (· omega); · (first | assumption | (refine sm_om ?_; omega)))
  | ((with_reducible apply w_mod); · first | omega | assumption)
  | with_reducible refine w_cmp ?_
  | with_reducible refine w_neg ?_
  | with_reducible refine w_abs ?_
  | with_reducible refine w_int ?_
  | with_reducible refine w_max ?_
  | with_reducible refine w_min ?_
  | with_reducible refine w_eqi ?_
  | with_reducible refine w_nei ?_
  | ((with_reducible apply w_eqd); (· first | assumption | (simp; done) | (simp [okDs_cons']; done)); · first | assumption | (simp; done) | (simp [okDs_cons']; done))
  | ((with_reducible apply w_ned); (· first | assumption | (simp; done) | (simp [okDs_cons']; done)); · first | assumption | (simp; done) | (simp [okDs_cons']; done))
  | with_reducible refine w_isB_ttt ?_
  | with_reducible refine w_isB_ttf ?_
  | with_reducible refine w_isB_tft ?_
  | with_reducible refine w_isB_tff ?_
  | with_reducible refine w_isN_tn ?_
  | with_reducible refine w_isN_tt ?_
  | with_reducible refine w_isN_tl ?_
  | with_reducible refine w_isN_ti ?_
  | with_reducible refine w_isN_ts ?_
  | with_reducible refine w_isN_tb ?_
  | with_reducible refine w_isB_ftt ?_
  | with_reducible refine w_isB_ftf ?_
  | with_reducible refine w_isB_fft ?_
  | with_reducible refine w_isB_fff ?_
  | with_reducible refine w_isN_fn ?_
  | with_reducible refine w_isN_ft ?_
  | with_reducible refine w_isN_fl ?_
  | with_reducible refine w_isN_fi ?_
  | with_reducible refine w_isN_fs ?_
  | with_reducible refine w_isN_fb ?_
  | with_reducible refine w_isN ?_
  | with_reducible refine w_isB ?_
  | ((with_reducible apply w_ixt); · first | exact at_0 | exact at_1 | exact at_2 | exact at_3 | assumption)
  | ((with_reducible apply w_ixl); · first | exact at_0 | exact at_1 | exact at_2 | exact at_3 | assumption)
  | ((with_reducible apply w_ixf); · first | exact at_0 | exact at_1 | exact at_2 | exact at_3 | assumption)
  | with_reducible refine w_len_t ?_
  | with_reducible refine w_len_l ?_
  | with_reducible refine w_len_f ?_
  | with_reducible refine w_tup_t ?_
  | with_reducible refine w_tup_l ?_
  | with_reducible refine w_lis_t ?_
  | with_reducible refine w_lis_l ?_
  | with_reducible refine w_rev ?_
  | with_reducible refine w_eSl ?_
  | with_reducible refine w_oNone ?_
  | with_reducible refine w_oSome ?_
  | with_reducible refine w_toInt ?_
  | with_reducible refine w_sl_t ?_
  | with_reducible refine w_sl_l ?_
  | with_reducible refine w_eApp ?_
  | with_reducible refine w_ePop ?_
  | with_reducible refine w_isCell ?_
  | with_reducible refine w_eLc ?_
  | with_reducible refine w_iSeq ?_
  | with_reducible refine w_its_t ?_
  | with_reducible refine w_its_l ?_
  | with_reducible refine w_iZp ?_
  | with_reducible refine w_zip_tt ?_
  | with_reducible refine w_zip_ll ?_
  | with_reducible refine w_iRg ?_
  | ((with_reducible apply w_rng); · first | omega | (simp; omega) | (simp; done))
  | with_reducible refine w_endB ?_
  | with_reducible refine w_endI ?_
  | with_reducible refine w_endN ?_
  | ((with_reducible apply w_endT); · first | rfl | assumption | (simp; done))
  | ((with_reducible apply w_endL); · first | rfl | assumption | (simp; done))
  | with_reducible refine ws_nil ?_
  | with_reducible refine ws_seq ?_
  | with_reducible refine ws_set ?_
  | with_reducible refine ws_expr ?_
  | with_reducible refine ws_ret ?_
  | with_reducible refine ws_retN ?_
  | with_reducible refine ws_raise ?_
  | with_reducible refine ws_if ?_
  | with_reducible refine ws_par ?_
  | with_reducible refine ws_par3 ?_
  | with_reducible refine ws_asg ?_
  | ((with_reducible apply ws_ao); · rfl)
  | with_reducible refine ws_for ?_
  | with_reducible refine if_tt ?_
  | with_reducible refine if_ff ?_
  | with_reducible refine if_ntt ?_
  | with_reducible refine if_nff ?_
  | ((with_reducible apply if_d1); · first | assumption | omega)
  | ((with_reducible apply if_d0); · first | assumption | omega)
  | ((with_reducible apply if_n1); · first | assumption | omega)
  | ((with_reducible apply if_n0); · first | assumption | omega)))
theorem w_take {S : Store} {n : Nat} {m : Int} {P : D → Store → Prop} {E : Str → Store → Prop} (b : Bag S n) (hm : 0 < m) (H : ∀ (i : Int) (S' : Store), 0 ≤ i → i < m → Upd S n S' → Bag S' n → P (.int i) S') : W (r__law_take [.cell n, .int m]) S P E :=
  W_mono (m_take b hm) (fun a S' ⟨⟨i, e, h0, h1⟩, hu⟩ => by subst e; exact H i S' h0 h1 hu (b.upd hu)) fun _ _ h => h.elim
theorem isRay_low {hh t b r l : Int} (hb : 0 < b) (hb2 : b ≤ 1000000) (hl : 0 < l) (hl2 : l ≤ 1000000) (h0 : 0 ≤ hh) (h60 : hh ≤ 60) (ht1 : -1000000 ≤ t) (ht2 : t ≤ 1000000) (t0 : 0 ≤ t) (t1 : t ≤ hh * b) (r0 : -l ≤ r) (r1 : r ≤ l) : isRay hh (.tuple [lowD t b, lowD r l]) = true := by
  have f1 := frac_low (t := t) hb hb2 ht1 ht2
  have f2 := frac_low (t := r) hl hl2 (by omega) (by omega)
  have a1 := low_ge (k := 0) (t := t) hb (by omega)
  have a2 := low_lt (k := hh) (t := t) hb t1
  have a3 := low_ge (k := -1) (t := r) hl (by omega)
  have a4 := low_lt (k := 1) (t := r) hl (by omega)
  rw [Int.zero_mul] at a1
  simp only [isRay, f1, f2]
  simp [lowD]
  omega
end
end Z
end
section
set_option maxHeartbeats 4000000
namespace Z
open PySem PySem.Spec L2
local macro_rules | `(tactic| trivial) => `(tactic| repeat (first
  | with_reducible refine WSt.h ?_
  | ((with_reducible apply w_rd_c); · assumption)
  | ((with_reducible apply w_rd_ok); · assumption)
  | ((with_reducible apply w_new); · first | rfl | assumption | (simp; done))
  | ((with_reducible apply len_ok); · rfl)
  | ((with_reducible apply len_eq); · rfl)
  | ((with_reducible apply w_is_int_ok); · assumption)
  | ((with_reducible apply w_is_bool_ok); · assumption)
  | ((with_reducible apply w_is_str_ok); · assumption)
  | ((with_reducible apply w_is_list_ok); · assumption)
  | ((with_reducible apply w_is_tuple_ok); · assumption)
  | ((with_reducible apply w_addT); · first | omega | (simp; omega) | (simp; done))
  | ((with_reducible apply w_addL); · first | omega | (simp; omega) | (simp; done))
  | ((with_reducible apply w_addC); · first | omega | (simp; omega) | (simp; done))
  | ((with_reducible apply w_mul); (· (first | assumption | (refine sm_om ?_; omega))); · (first | assumption | (refine sm_om ?_; omega)))
  | ((with_reducible apply w_div); (· omega); · (first | assumption | (refine sm_om ?_; omega)))
  | ((with_reducible apply w_mod); · first | omega | assumption)
  | ((with_reducible apply w_eqd); (· first | assumption | (simp; done) | (simp [okDs_cons']; done)); · first | assumption | (simp; done) | (simp [okDs_cons']; done))
  | ((with_reducible apply w_ned); (· first | assumption | (simp; done) | (simp [okDs_cons']; done)); · first | assumption | (simp; done) | (simp [okDs_cons']; done))
  | ((with_reducible apply w_ixt); · first | exact at_0 | exact at_1 | exact at_2 | exact at_3 | assumption)
  | ((with_reducible apply w_ixl); · first | exact at_0 | exact at_1 | exact at_2 | exact at_3 | assumption)
  | ((with_reducible apply w_ixf); · first | exact at_0 | exact at_1 | exact at_2 | exact at_3 | assumption)
  | ((with_reducible apply w_rng); · first | omega | (simp; omega) | (simp; done))
  | ((with_reducible apply w_endT); · first | rfl | assumption | (simp; done))
  | ((with_reducible apply w_endL); · first | rfl | assumption | (simp; done))
  | ((with_reducible apply if_d1); · first | assumption | omega)
  | ((with_reducible apply if_d0); · first | assumption | omega)
  | ((with_reducible apply if_n1); · first | assumption | omega)
  | ((with_reducible apply if_n0); · first | assumption | omega)))
/-- plain values of bounded depth and length -/
def Pl (L : Nat) : Nat → D → Prop
  | n + 1, .tuple xs => xs.length ≤ L ∧ ∀ x ∈ xs, Pl L n x
  | n + 1, .list xs => xs.length ≤ L ∧ ∀ x ∈ xs, Pl L n x
  | _, d => okD 0 d = true
theorem Pl.flat {L n : Nat} {d : D} (h : okD 0 d = true) : Pl L n d := by
  cases n <;> cases d <;> first | exact h | (simp [okD] at h)
theorem Pl.ok {L : Nat} : ∀ {n : Nat} {d : D}, Pl L n d → okD n d = true
  | 0, d, h => by unfold Pl at h; exact h
  | n + 1, .tuple xs, h => by
    rw [okD_tuple]
    exact okDs_of fun x hx => (h.2 x hx).ok
  | n + 1, .list xs, h => by
    rw [okD_list]
    exact okDs_of fun x hx => (h.2 x hx).ok
  | n + 1, .none, h => rfl
  | n + 1, .bool _, h => rfl
  | n + 1, .int _, h => rfl
  | n + 1, .str _, h => okD_mono (Nat.zero_le _) _ h
  | n + 1, .cell _, h => by cases h
  | n + 1, .fn _, h => by cases h
  | n + 1, .frz _, h => by cases h
  | n + 1, .adr _, h => by cases h
theorem Pl.mono {L L' : Nat} (hL : L ≤ L') : ∀ {n n' : Nat} {d : D}, n ≤ n' → Pl L n d → Pl L' n' d
  | 0, n', d, _, h => by unfold Pl at h; exact .flat h
  | n + 1, 0, _, hn, _ => by omega
  | n + 1, n' + 1, .tuple xs, hn, h => ⟨by have := h.1; omega, fun x hx => (h.2 x hx).mono hL (by omega)⟩
  | n + 1, n' + 1, .list xs, hn, h => ⟨by have := h.1; omega, fun x hx => (h.2 x hx).mono hL (by omega)⟩
  | n + 1, n' + 1, .none, hn, h => .flat h
  | n + 1, n' + 1, .bool _, hn, h => .flat h
  | n + 1, n' + 1, .int _, hn, h => .flat h
  | n + 1, n' + 1, .str _, hn, h => .flat h
  | n + 1, n' + 1, .cell _, hn, h => by cases h
  | n + 1, n' + 1, .fn _, hn, h => by cases h
  | n + 1, n' + 1, .frz _, hn, h => by cases h
  | n + 1, n' + 1, .adr _, hn, h => by cases h
theorem Pl.fix {L n : Nat} {d : D} (h : Pl L n d) : fixD d = true := ok_fix h.ok
theorem Pl.tup {L n : Nat} {xs : List D} : Pl L (n + 1) (.tuple xs) ↔ xs.length ≤ L ∧ ∀ x ∈ xs, Pl L n x := Iff.rfl
theorem Pl.lis {L n : Nat} {xs : List D} : Pl L (n + 1) (.list xs) ↔ xs.length ≤ L ∧ ∀ x ∈ xs, Pl L n x := Iff.rfl
theorem Pl.int {L n : Nat} {i : Int} : Pl L n (.int i) := .flat rfl
theorem Pl.bool {L n : Nat} {i : Bool} : Pl L n (.bool i) := .flat rfl
theorem Pl.none {L n : Nat} : Pl L n .none := .flat rfl
theorem Pl.str {L n : Nat} {s : Str} (h : PyData.strOk s = true) : Pl L n (.str s) := .flat (by rw [okD_str]; exact h)
theorem w_ixAll {xs : List D} {i : Int} {S : Store} {P : D → Store → Prop} {E : Str → Store → Prop} (h0 : 0 ≤ i) (h1 : i < xs.length) (H : ∀ d ∈ xs, P d S) : W (gIx (.list xs) (.int i)) S P E := by
  obtain ⟨d, hd, hm⟩ := at_int h0 h1
  rw [gIx_l, hd]
  exact H d hm
theorem w_endAny {n : Nat} {d : D} {S : Store} {P : D → Store → Prop} {E : Str → Store → Prop} (e : fixD d = true) (H : P d (S.take n)) : W (endT n d) S P E := by rw [W_endT e]; exact H
theorem eqD_nil {xs : List D} : eqD (.tuple xs) (.tuple []) = xs.isEmpty := by
  cases xs <;> simp [eqD, eqDs]
theorem Upd.take {S S' : Store} {n : Nat} (h : Upd S n S') : Upd S n (S'.take S.length) := by
  rw [← h.len, List.take_length]; exact h
theorem sIx_some {n m : Nat} {i : Int} : HT.sIx n m (some i) = if i < 0 then (i + n).toNat else min i.toNat n := rfl
theorem sIx_none {n m : Nat} : HT.sIx n m none = m := rfl
theorem cut_take {xs : List D} {i : Int} (h : 0 ≤ i) : cutD xs none (some i) = xs.take i.toNat := by
  unfold cutD
  rw [sIx_none, sIx_some, if_neg (by omega)]
  simp
theorem cut_drop {xs : List D} {i : Int} (h : 0 ≤ i) : cutD xs (some i) none = xs.drop i.toNat := by
  unfold cutD
  rw [sIx_none, sIx_some, if_neg (by omega)]
  by_cases hl : i.toNat ≤ xs.length
  · rw [Nat.min_eq_left hl, List.take_of_length_le (by simp)]
  · rw [Nat.min_eq_right (by omega), List.drop_of_length_le (Nat.le_refl _), List.drop_of_length_le (by omega)]
    simp
theorem cut_tail {xs : List D} : cutD xs (some (-1)) none = xs.drop (xs.length - 1) := by
  unfold cutD
  rw [sIx_none, sIx_some, if_pos (by omega)]
  have : (-1 + (xs.length : Int)).toNat = xs.length - 1 := by omega
  rw [this, List.take_of_length_le (by simp)]
theorem w_if_t {c : Prop} [Decidable c] {m m' : M D} {S : Store} {P : D → Store → Prop} {E : Str → Store → Prop} (h : c) (H : W m S P E) : W (if c then m else m') S P E := by rw [if_pos h]; exact H
theorem Pl.hall {hh e : Int} {ws : List D} (h : isHall (.tuple [.int hh, .tuple ws, .int e]) = true) : Pl 10 4 (.tuple [.int hh, .tuple ws, .int e]) := by
  obtain ⟨_, _, _, e0, b1, b2, b3, b4, b5, b6, _⟩ := hall_of h
  simp at e0
  obtain ⟨rfl, rfl, rfl⟩ := e0
  refine Pl.tup.mpr ⟨by simp, fun x hx => ?_⟩
  simp only [List.mem_cons, List.not_mem_nil, or_false] at hx
  rcases hx with rfl | rfl | rfl
  · exact .int
  · refine Pl.tup.mpr ⟨by omega, fun w hw => ?_⟩
    obtain ⟨p, lo, to, rfl, _⟩ := wall_int (b6 w hw)
    exact Pl.tup.mpr ⟨by simp, by simp [Pl.int]⟩
  · exact .int
theorem ev_ok {b : Int} : Pl 10 3 (evD "through" b) ∧ Pl 10 3 (evD "under" b) ∧ Pl 10 3 (evD "over" b) ∧ Pl 10 3 (evD "screen" b) := by
  have s1 : PyData.strOk "through" = true := by decide +kernel
  have s2 : PyData.strOk "under" = true := by decide +kernel
  have s3 : PyData.strOk "over" = true := by decide +kernel
  have s4 : PyData.strOk "screen" = true := by decide +kernel
  refine ⟨?_, ?_, ?_, ?_⟩ <;> exact Pl.tup.mpr ⟨by simp, by simp [Pl.int, Pl.str s1, Pl.str s2, Pl.str s3, Pl.str s4]⟩
/-- the word of a run is a word -/
theorem run_word {hh e t b r l : Int} (R : RayOk hh t b r l) (he : e ≤ hh) (he0 : 0 ≤ e) {many : Nat} (hm : many ≤ 3) : ∀ (ws acc : List D), (∀ w ∈ ws, isWall hh e w = true) → acc.length + ws.length = many → (∀ x ∈ acc, isEvent ["through"] x = true) → (∀ x ∈ acc, Pl 10 3 x) →
    ∃ w p y, runD hh e t b r l acc ws = .tuple [.tuple w, p, y] ∧ isWord many (.tuple w) = true ∧ (∀ x ∈ w, Pl 10 3 x) ∧ w.length ≤ many + 1 := by
  have bandOk : ∀ p : Int, 0 ≤ p → p ≤ hh → ∀ k ks, k ∈ (ks : List Str) → isEvent ks (evD k (levT t b r l p / (hh * levB t b r l p))) = true := fun p h0 h1 k ks hk => by
    have := R.band h0 h1
    simp [isEvent, evD, hk, isWhole]
    omega
  have fin : ∀ (acc : List D) (k : Str) (p : Int), 0 ≤ p → p ≤ hh → (∀ x ∈ acc, isEvent ["through"] x = true) → (∀ x ∈ acc, Pl 10 3 x) → acc.length ≤ many → k ∈ lastKs (acc.length + 1) many → Pl 10 3 (evD k (levT t b r l p / (hh * levB t b r l p))) →
      isWord many (.tuple (acc ++ [evD k (levT t b r l p / (hh * levB t b r l p))])) = true ∧ (∀ x ∈ acc ++ [evD k (levT t b r l p / (hh * levB t b r l p))], Pl 10 3 x) ∧ (acc ++ [evD k (levT t b r l p / (hh * levB t b r l p))]).length ≤ many + 1 := fun acc k p h0 h1 ha hp hl hk hpk => by
    refine ⟨?_, fun x hx => ?_, by simp; omega⟩
    · have a1 : acc.all (isEvent ["through"]) = true := List.all_eq_true.mpr ha
      have a2 := bandOk p h0 h1 k _ hk
      simp [isWord, a1, a2, hl, ha]
    · rcases List.mem_append.mp hx with hx | hx
      · exact hp x hx
      · rw [List.mem_singleton] at hx
        subst hx
        exact hpk
  intro ws
  induction ws with
  | nil =>
    intro acc _ hl ha hp
    rw [List.length_nil, Nat.add_zero] at hl
    rw [runD_nil]
    exact ⟨_, _, _, rfl, fin acc _ e he0 he ha hp (by omega) (by simp [lastKs, hl]) ev_ok.2.2.2⟩
  | cons w ws ih =>
    intro acc hw hl ha hp
    rw [List.length_cons] at hl
    obtain ⟨p, lo, to, rfl, p1, p2, l1, l2, l3⟩ := wall_int (hw w (by simp))
    have hk : lastKs (acc.length + 1) many = (["under", "over"] : List Str) := by
      unfold lastKs
      rw [if_neg (by omega)]
    unfold runD
    split
    · exact ⟨_, _, _, rfl, fin acc _ p (by omega) (by omega) ha hp (by omega) (by rw [hk]; simp) ev_ok.2.1⟩
    · split
      · exact ⟨_, _, _, rfl, fin acc _ p (by omega) (by omega) ha hp (by omega) (by rw [hk]; simp) ev_ok.2.2.1⟩
      · refine ih _ (fun w h => hw w (List.mem_cons_of_mem _ h)) (by simp; omega) (fun x hx => ?_) fun x hx => ?_
        · rcases List.mem_append.mp hx with hx | hx
          · exact ha x hx
          · rw [List.mem_singleton] at hx
            subst hx
            exact bandOk p (by omega) (by omega) _ _ (by simp)
        · rcases List.mem_append.mp hx with hx | hx
          · exact hp x hx
          · rw [List.mem_singleton] at hx
            subst hx
            exact ev_ok.1
theorem m_bag {S : Store} {ns : List Int} {k : Nat} (hl : ns.length ≤ 63) (hk : k ≤ 100) : W (r__law_bag [script ns, .int (k : Nat)]) S (fun d S' => d = .cell S.length ∧ ∃ ds : List Int, S' = S ++ [.lst (ds.map .int)] ∧ ds.length ≤ 1000) NE := by
  unfold r__law_bag
  rw [W_fnF]
  unfold b__law_bag
  show WS _ [some (script ns), some (.int (k : Nat))] S _ _ _
  trivial
  exact m_draws hl hk
theorem w_bag {S : Store} {ns : List Int} {k : Nat} {P : D → Store → Prop} (hl : ns.length ≤ 63) (hk : k ≤ 100) (H : ∀ S' c, Bag S' c → P (.cell c) S') : W (r__law_bag [script ns, .int (k : Nat)]) S P NE :=
  W_mono (m_bag hl hk) fun d S' ⟨e1, ds, e2, e3⟩ => by
    subst e1 e2
    exact H _ _ ⟨ds, by simp, e3⟩
theorem w_hall {S : Store} {n : Nat} {m : Int} {P : D → Store → Prop} (b : Bag S n) (h0 : 0 ≤ m) (h3 : m ≤ 3) (H : ∀ (hh e : Int) (ws : List D) S', isHall (.tuple [.int hh, .tuple ws, .int e]) = true → (hh = 3 ∨ hh = 6 ∨ hh = 10 ∨ hh = 12 ∨ hh = 60) → 3 ≤ e → e ≤ hh → ws.length ≤ m → (∀ w ∈ ws, isWall hh e w = true) → Bag S' n → P (.tuple [.int hh, .tuple ws, .int e]) S') : W (r__law_hall [.cell n, .int m]) S P NE :=
  W_mono (m_hall b h0 h3) fun d S' ⟨⟨h1, hh, e, ws, e1, h2, h4, h5, h6⟩, hu⟩ => by
    subst e1
    refine H hh e ws S' h1 h2 h4 h5 h6 ?_ (b.upd hu)
    obtain ⟨_, _, _, e0, _, _, _, _, _, b6, _⟩ := hall_of h1
    simp at e0
    obtain ⟨rfl, rfl, rfl⟩ := e0
    exact b6
theorem Pl.ray {t b r l : Int} : Pl 10 4 (.tuple [.tuple [.int t, .int b], .tuple [.int r, .int l]]) := by
  refine Pl.tup.mpr ⟨by simp, fun x hx => ?_⟩
  simp only [List.mem_cons, List.not_mem_nil, or_false] at hx
  rcases hx with rfl | rfl <;> exact Pl.tup.mpr ⟨by simp, by simp [Pl.int]⟩
theorem cell_last {S : Store} {c : Cell} : (S ++ [c])[S.length]? = some c := by simp
end Z
end
section
set_option maxHeartbeats 4000000
namespace Z
open PySem PySem.Spec L2
local macro_rules | `(tactic| trivial) => `(tactic| repeat (first
  | with_reducible refine WSt.h ?_
  | ((with_reducible apply w_rd_c); · assumption)
  | ((with_reducible apply w_rd_ok); · assumption)
  | ((with_reducible apply w_new); · first | rfl | assumption | (simp; done))
  | ((with_reducible apply len_ok); · rfl)
  | ((with_reducible apply len_eq); · rfl)
  | ((with_reducible apply w_is_int_ok); · assumption)
  | ((with_reducible apply w_is_bool_ok); · assumption)
  | ((with_reducible apply w_is_str_ok); · assumption)
  | ((with_reducible apply w_is_list_ok); · assumption)
  | ((with_reducible apply w_is_tuple_ok); · assumption)
  | ((with_reducible apply w_addT); · first | omega | (simp; omega) | (simp; done))
  | ((with_reducible apply w_addL); · first | omega | (simp; omega) | (simp; done))
  | ((with_reducible apply w_addC); · first | omega | (simp; omega) | (simp; done))
  | ((with_reducible apply w_mul); (· (first | assumption | (refine sm_om ?_; omega))); · (first | assumption | (refine sm_om ?_; omega)))
  | ((with_reducible apply w_div); (· omega); · (first | assumption | (refine sm_om ?_; omega)))
  | ((with_reducible apply w_mod); · first | omega | assumption)
  | ((with_reducible apply w_eqd); (· first | assumption | (simp; done) | (simp [okDs_cons']; done)); · first | assumption | (simp; done) | (simp [okDs_cons']; done))
  | ((with_reducible apply w_ned); (· first | assumption | (simp; done) | (simp [okDs_cons']; done)); · first | assumption | (simp; done) | (simp [okDs_cons']; done))
  | ((with_reducible apply w_ixt); · first | exact at_0 | exact at_1 | exact at_2 | exact at_3 | assumption)
  | ((with_reducible apply w_ixl); · first | exact at_0 | exact at_1 | exact at_2 | exact at_3 | assumption)
  | ((with_reducible apply w_ixf); · first | exact at_0 | exact at_1 | exact at_2 | exact at_3 | assumption)
  | ((with_reducible apply w_rng); · first | omega | (simp; omega) | (simp; done))
  | ((with_reducible apply w_endT); · first | rfl | assumption | (simp; done))
  | ((with_reducible apply w_endL); · first | rfl | assumption | (simp; done))
  | ((with_reducible apply if_d1); · first | assumption | omega)
  | ((with_reducible apply if_d0); · first | assumption | omega)
  | ((with_reducible apply if_n1); · first | assumption | omega)
  | ((with_reducible apply if_n0); · first | assumption | omega)))
section
variable {S : Store} {P : D → Store → Prop} {E : Str → Store → Prop}
theorem w_err {α : Type} {m : M α} {c : Str} {P : α → Store → Prop} (e : m = raise c) (H : E c S) : W m S P E := by rw [e]; exact H
theorem eHof_ap {n nn : Nat} {js : List Nat} {fb : BE} {G : (List D → M D) → List D → M D} {fs : BA} {env : Ev} : eHof n nn js fb G fs env = (fs env >>= fun ds => if ds.length = n then G (fun as => fb (lamEv nn js env as)) ds else no) := rfl
instance i_hof {n nn : Nat} {js : List Nat} {fb : BE} {G : (List D → M D) → List D → M D} {fs : BA} {env : Ev} : WSt (W (eHof n nn js fb G fs env) S P E) (W (fs env) S (fun ds S1 => ds.length = n ∧ W (G (fun as => fb (lamEv nn js env as)) ds) S1 P E) E) := ⟨fun H => by
  rw [eHof_ap, W_bind]
  refine W_mono H fun as S1 h => ?_
  rw [if_pos h.1]
  exact h.2⟩
theorem eCallF_ap {t : FTab} {v : BE} {fs : BA} {env : Ev} : eCallF t v fs env = (v env >>= fun d => look t d >>= fun p => fs env >>= fun as => if as.length = p.1 then p.2 as else no) := rfl
instance i_callF {t : FTab} {v : BE} {fs : BA} {env : Ev} : WSt (W (eCallF t v fs env) S P E) (W (v env) S (fun d S1 => W (look t d) S1 (fun p S2 => W (fs env) S2 (fun as S3 => as.length = p.1 ∧ W (p.2 as) S3 P E) E) E) E) := ⟨fun H => by
  rw [eCallF_ap, W_bind]
  refine W_mono H fun d S1 h => ?_
  rw [W_bind]
  refine W_mono h fun p S2 h => ?_
  rw [W_bind]
  refine W_mono h fun as S3 h => ?_
  rw [if_pos h.1]
  exact h.2⟩
theorem w_look {t : FTab} {y : Str} {p : Nat × (List D → M D)} {P : Nat × (List D → M D) → Store → Prop} (e : t.lookup y = some p) (H : P p S) : W (look t (.fn y)) S P E := by
  unfold look
  dsimp only
  rw [e]
  exact H
/-- the class names -/
def errN : List Str := ["InvalidHall", "InvalidRay", "InvalidWord", "InvalidWall", "InvalidPaper", "InvalidFacts", "InvalidDeed", "InvalidText", "Unlike", "NothingToUndo"]
end
end Z
end
section
set_option maxHeartbeats 4000000
namespace Z
open PySem PySem.Spec L2
local macro_rules | `(tactic| trivial) => `(tactic| repeat (first
  | with_reducible refine WSt.h ?_
  | ((with_reducible apply w_rd_c); · assumption)
  | ((with_reducible apply w_rd_ok); · assumption)
  | ((with_reducible apply w_new); · first | rfl | assumption | (simp; done))
  | ((with_reducible apply len_ok); · rfl)
  | ((with_reducible apply len_eq); · rfl)
  | ((with_reducible apply w_is_int_ok); · assumption)
  | ((with_reducible apply w_is_bool_ok); · assumption)
  | ((with_reducible apply w_is_str_ok); · assumption)
  | ((with_reducible apply w_is_list_ok); · assumption)
  | ((with_reducible apply w_is_tuple_ok); · assumption)
  | ((with_reducible apply w_addT); · first | omega | (simp; omega) | (simp; done))
  | ((with_reducible apply w_addL); · first | omega | (simp; omega) | (simp; done))
  | ((with_reducible apply w_addC); · first | omega | (simp; omega) | (simp; done))
  | ((with_reducible apply w_mul); (· (first | assumption | (refine sm_om ?_; omega))); · (first | assumption | (refine sm_om ?_; omega)))
  | ((with_reducible apply w_div); (· omega); · (first | assumption | (refine sm_om ?_; omega)))
  | ((with_reducible apply w_mod); · first | omega | assumption)
  | ((with_reducible apply w_eqd); (· first | assumption | (simp; done) | (simp [okDs_cons']; done)); · first | assumption | (simp; done) | (simp [okDs_cons']; done))
  | ((with_reducible apply w_ned); (· first | assumption | (simp; done) | (simp [okDs_cons']; done)); · first | assumption | (simp; done) | (simp [okDs_cons']; done))
  | ((with_reducible apply w_ixt); · first | exact at_0 | exact at_1 | exact at_2 | exact at_3 | assumption)
  | ((with_reducible apply w_ixl); · first | exact at_0 | exact at_1 | exact at_2 | exact at_3 | assumption)
  | ((with_reducible apply w_ixf); · first | exact at_0 | exact at_1 | exact at_2 | exact at_3 | assumption)
  | ((with_reducible apply w_rng); · first | omega | (simp; omega) | (simp; done))
  | ((with_reducible apply w_endT); · first | rfl | assumption | (simp; done))
  | ((with_reducible apply w_endL); · first | rfl | assumption | (simp; done))
  | ((with_reducible apply if_d1); · first | assumption | omega)
  | ((with_reducible apply if_d0); · first | assumption | omega)
  | ((with_reducible apply if_n1); · first | assumption | omega)
  | ((with_reducible apply if_n0); · first | assumption | omega)))
/-! ### halls and events as data -/
structure Hl where
  hh : Int
  wl : List (Int × Int × Int)
  e : Int
def wD (w : Int × Int × Int) : D := .tuple [.int w.1, .int w.2.1, .int w.2.2]
def hD (h : Hl) : D := .tuple [.int h.hh, .tuple (h.wl.map wD), .int h.e]
structure HOk (h : Hl) : Prop where
  h1 : 1 ≤ h.hh
  h2 : h.hh ≤ 60
  e1 : 1 ≤ h.e
  e2 : h.e ≤ h.hh
  wl3 : h.wl.length ≤ 3
  w : ∀ w ∈ h.wl, 1 ≤ w.1 ∧ w.1 ≤ h.e - 1 ∧ 0 ≤ w.2.1 ∧ w.2.1 ≤ w.2.2 ∧ w.2.2 ≤ h.hh
theorem hall_hl {v : D} (hv : isHall v = true) : ∃ h : Hl, v = hD h ∧ HOk h := by
  obtain ⟨hh, e, ws, rfl, h1, h2, e1, e2, l3, hw, hinc⟩ := hall_of hv
  have : ∃ wl : List (Int × Int × Int), ws = wl.map wD ∧ ∀ w ∈ wl, 1 ≤ w.1 ∧ w.1 ≤ e - 1 ∧ 0 ≤ w.2.1 ∧ w.2.1 ≤ w.2.2 ∧ w.2.2 ≤ hh := by
    clear l3 hv hinc
    induction ws with
    | nil => exact ⟨[], rfl, by simp⟩
    | cons w ws ih =>
      obtain ⟨wl, rfl, h3⟩ := ih (fun x hx => hw x (by simp [hx]))
      obtain ⟨p, lo, to, rfl, q1, q2, q3, q4, q5⟩ := wall_int (hw w (by simp))
      refine ⟨(p, lo, to) :: wl, rfl, fun w hw' => ?_⟩
      rcases List.mem_cons.mp hw' with rfl | hw'
      · exact ⟨q1, q2, q3, q4, q5⟩
      · exact h3 w hw'
  obtain ⟨wl, rfl, h3⟩ := this
  exact ⟨⟨hh, wl, e⟩, rfl, ⟨h1, h2, e1, e2, by simpa using l3, h3⟩⟩
end Z
end
section
set_option maxHeartbeats 4000000
namespace Z
open PySem PySem.Spec L2
local macro_rules | `(tactic| trivial) => `(tactic| repeat (first
  | with_reducible refine WSt.h ?_
  | ((with_reducible apply w_rd_c); · assumption)
  | ((with_reducible apply w_rd_ok); · assumption)
  | ((with_reducible apply w_new); · first | rfl | assumption | (simp; done))
  | ((with_reducible apply len_ok); · rfl)
  | ((with_reducible apply len_eq); · rfl)
  | ((with_reducible apply w_is_int_ok); · assumption)
  | ((with_reducible apply w_is_bool_ok); · assumption)
  | ((with_reducible apply w_is_str_ok); · assumption)
  | ((with_reducible apply w_is_list_ok); · assumption)
  | ((with_reducible apply w_is_tuple_ok); · assumption)
  | ((with_reducible apply w_addT); · first | omega | (simp; omega) | (simp; done))
  | ((with_reducible apply w_addL); · first | omega | (simp; omega) | (simp; done))
  | ((with_reducible apply w_addC); · first | omega | (simp; omega) | (simp; done))
  | ((with_reducible apply w_mul); (· (first | assumption | (refine sm_om ?_; omega))); · (first | assumption | (refine sm_om ?_; omega)))
  | ((with_reducible apply w_div); (· omega); · (first | assumption | (refine sm_om ?_; omega)))
  | ((with_reducible apply w_mod); · first | omega | assumption)
  | ((with_reducible apply w_eqd); (· first | assumption | (simp; done) | (simp [okDs_cons']; done)); · first | assumption | (simp; done) | (simp [okDs_cons']; done))
  | ((with_reducible apply w_ned); (· first | assumption | (simp; done) | (simp [okDs_cons']; done)); · first | assumption | (simp; done) | (simp [okDs_cons']; done))
  | ((with_reducible apply w_ixt); · first | exact at_0 | exact at_1 | exact at_2 | exact at_3 | assumption)
  | ((with_reducible apply w_ixl); · first | exact at_0 | exact at_1 | exact at_2 | exact at_3 | assumption)
  | ((with_reducible apply w_ixf); · first | exact at_0 | exact at_1 | exact at_2 | exact at_3 | assumption)
  | ((with_reducible apply w_rng); · first | omega | (simp; omega) | (simp; done))
  | ((with_reducible apply w_endT); · first | rfl | assumption | (simp; done))
  | ((with_reducible apply w_endL); · first | rfl | assumption | (simp; done))
  | ((with_reducible apply if_d1); · first | assumption | omega)
  | ((with_reducible apply if_d0); · first | assumption | omega)
  | ((with_reducible apply if_n1); · first | assumption | omega)
  | ((with_reducible apply if_n0); · first | assumption | omega)))
open TL
theorem spl1_cons {s c : Nat} {acc r : List Nat} : spl [s] 0 acc (c :: r) = if c = s then acc :: spl [s] 0 [] r else spl [s] 0 (acc ++ [c]) r := by
  show (if pre [s] (c :: r) = true then acc :: spl [s] ([s].length - 1) [] r else spl [s] 0 (acc ++ [c]) r) = _
  have e : pre [s] (c :: r) = decide (c = s) := by
    unfold pre
    show ([c] == [s]) = _
    by_cases h : c = s
    · simp [h]
    · simp [h]
  rw [e]
  by_cases h : c = s
  · rw [if_pos (decide_eq_true h), if_pos h]
    rfl
  · rw [if_neg (by rw [decide_eq_true_eq]; exact h), if_neg h]
theorem spl_ne {s : Nat} : ∀ (l acc : List Nat), spl [s] 0 acc l ≠ []
  | [], acc => by simp [spl]
  | c :: r, acc => by
    rw [spl1_cons]
    split
    · simp
    · exact spl_ne r _
theorem joinL_cons {s p : List Nat} {q : List (List Nat)} (h : q ≠ []) : joinL s (p :: q) = p ++ (s ++ joinL s q) := by
  cases q with
  | nil => exact absurd rfl h
  | cons x q => rfl
/-- a text is what its pieces make -/
theorem join_spl {s : Nat} : ∀ (l acc : List Nat), joinL [s] (spl [s] 0 acc l) = acc ++ l
  | [], acc => by rw [spl_nil, List.append_nil]; rfl
  | c :: r, acc => by
    rw [spl1_cons]
    by_cases h : c = s
    · rw [if_pos h, joinL_cons (spl_ne r []), join_spl r []]
      subst h
      simp
    · rw [if_neg h, join_spl r]
      simp
theorem spl_free {s : Nat} : ∀ (l acc : List Nat), s ∉ acc → ∀ p ∈ spl [s] 0 acc l, s ∉ p
  | [], acc, ha => by
    rw [spl_nil]
    intro p hp
    rw [List.mem_singleton.mp hp]
    exact ha
  | c :: r, acc, ha => by
    rw [spl1_cons]
    by_cases h : c = s
    · rw [if_pos h]
      intro p hp
      rcases List.mem_cons.mp hp with e | hp
      · rw [e]; exact ha
      · exact spl_free r [] (by simp) p hp
    · rw [if_neg h]
      exact spl_free r (acc ++ [c]) (by
        intro z
        rcases List.mem_append.mp z with z | z
        · exact ha z
        · exact h (List.mem_singleton.mp z).symm)
theorem spl_sub {s : Nat} : ∀ (l acc : List Nat), ∀ p ∈ spl [s] 0 acc l, ∀ c ∈ p, c ∈ acc ∨ c ∈ l
  | [], acc => by
    rw [spl_nil]
    intro p hp c hc
    rw [List.mem_singleton.mp hp] at hc
    exact .inl hc
  | d :: r, acc => by
    rw [spl1_cons]
    intro p hp c hc
    by_cases h : d = s
    · rw [if_pos h] at hp
      rcases List.mem_cons.mp hp with e | hp
      · rw [e] at hc; exact .inl hc
      · rcases spl_sub r [] p hp c hc with z | z
        · simp at z
        · exact .inr (by simp [z])
    · rw [if_neg h] at hp
      rcases spl_sub r _ p hp c hc with z | z
      · rcases List.mem_append.mp z with z | z
        · exact .inl z
        · exact .inr (by simp [List.mem_singleton.mp z])
      · exact .inr (by simp [z])
theorem spl_count {s : Nat} : ∀ (l acc : List Nat), (spl [s] 0 acc l).length ≤ l.length + 1 ∧ ((spl [s] 0 acc l).map (·.length)).sum ≤ acc.length + l.length
  | [], acc => by rw [spl_nil]; simp
  | c :: r, acc => by
    rw [spl1_cons]
    by_cases h : c = s
    · rw [if_pos h]
      obtain ⟨h1, h2⟩ := spl_count (s := s) r []
      simp only [List.length_cons, List.map_cons, List.sum_cons, List.length_nil] at h1 h2 ⊢
      omega
    · rw [if_neg h]
      obtain ⟨h1, h2⟩ := spl_count (s := s) r (acc ++ [c])
      simp only [List.length_cons, List.length_append, List.length_nil] at h1 h2 ⊢
      omega
abbrev Rws := List (List (List Nat))
/-- a text's lines, each by its words -/
def rowsT (x : List Nat) : Rws := (spl [10] 0 [] x).map (spl [32] 0 [])
def J (r : Rws) : List Nat := joinL [10] (r.map (joinL [32]))
theorem J_rows (x : List Nat) : J (rowsT x) = x := by
  unfold J rowsT
  rw [List.map_map]
  have e : (spl [10] 0 [] x).map (joinL [32] ∘ spl [32] 0 []) = spl [10] 0 [] x := by
    have : ∀ l : List (List Nat), l.map (joinL [32] ∘ spl [32] 0 []) = l := by
      intro l
      induction l with
      | nil => rfl
      | cons p l ih =>
        rw [List.map_cons, ih]
        show joinL [32] (spl [32] 0 [] p) :: l = _
        rw [join_spl, List.nil_append]
    exact this _
  rw [e, join_spl, List.nil_append]
theorem rows_ne (x : List Nat) : rowsT x ≠ [] ∧ ∀ r ∈ rowsT x, r ≠ [] := by
  constructor
  · intro z
    exact spl_ne _ _ (List.map_eq_nil_iff.mp z)
  · intro r hr z
    obtain ⟨p, _, rfl⟩ := List.mem_map.mp hr
    exact spl_ne _ _ z
theorem mem_joinL {s : List Nat} {c : Nat} : ∀ {ps : List (List Nat)}, c ∈ joinL s ps → c ∈ s ∨ ∃ p ∈ ps, c ∈ p
  | [], h => by cases h
  | [p], h => .inr ⟨p, by simp, h⟩
  | p :: q :: r, h => by
    have h : c ∈ p ++ (s ++ joinL s (q :: r)) := h
    rcases List.mem_append.mp h with h | h
    · exact .inr ⟨p, by simp, h⟩
    · rcases List.mem_append.mp h with h | h
      · exact .inl h
      · rcases mem_joinL h with z | ⟨p', hp, hc⟩
        · exact .inl z
        · exact .inr ⟨p', by simp [List.mem_cons.mp hp], hc⟩
/-- rows whose words hold neither blank nor line's end are read back -/
theorem rows_J {r : Rws} (h0 : r ≠ []) (h1 : ∀ p ∈ r, p ≠ []) (h2 : ∀ p ∈ r, ∀ w ∈ p, 10 ∉ w ∧ 32 ∉ w) : rowsT (J r) = r := by
  unfold rowsT J
  rw [spl_join (by simpa using h0) (fun p hp => ?_), List.map_map]
  · have : ∀ l : Rws, (∀ p ∈ l, p ≠ []) → (∀ p ∈ l, ∀ w ∈ p, 10 ∉ w ∧ 32 ∉ w) → l.map (spl [32] 0 [] ∘ joinL [32]) = l := by
      intro l
      induction l with
      | nil => intro _ _; rfl
      | cons p l ih =>
        intro a b
        rw [List.map_cons, ih (fun q hq => a q (by simp [hq])) fun q hq => b q (by simp [hq])]
        show spl [32] 0 [] (joinL [32] p) :: l = _
        rw [spl_join (a p (by simp)) fun w hw => (b p (by simp) w hw).2]
    exact this r h1 h2
  · obtain ⟨q, hq, rfl⟩ := List.mem_map.mp hp
    intro z
    rcases mem_joinL z with z | ⟨w, hw, hc⟩
    · simp at z
    · exact (h2 q hq w hw).1 hc
/-! ### numbers of at most two digits -/
def dig : List Nat := [48, 49, 50, 51, 52, 53, 54, 55, 56, 57]
def num2 (n : Nat) : List Nat := if n < 10 then [48 + n] else [48 + n / 10, 48 + n % 10]
def numT (n : Int) : List Nat := tl (toString n)
theorem numT_eq {n : Nat} (h : n ≤ 99) : numT (n : Int) = num2 n := by
  unfold numT num2
  rw [tl_num]
  by_cases c : n < 10
  · rw [if_pos c, numL_lt c]
  · rw [if_neg c, numL_step (by omega), numL_lt (by omega)]
    rfl
theorem mem_dig {c : Nat} : c ∈ dig ↔ 48 ≤ c ∧ c ≤ 57 := by
  unfold dig
  simp only [List.mem_cons, List.not_mem_nil, or_false]
  omega
def val : List Nat → Int
  | [a] => (a : Int) - 48
  | [a, b] => ((a : Int) - 48) * 10 + ((b : Int) - 48)
  | _ => 0
def isNum (w : List Nat) : Prop := (1 ≤ w.length ∧ w.length ≤ 2) ∧ ∀ c ∈ w, c ∈ dig
instance (w : List Nat) : Decidable (isNum w) := by unfold isNum; infer_instance
theorem isNum_cases {w : List Nat} (h : isNum w) : (∃ a, w = [a] ∧ 48 ≤ a ∧ a ≤ 57) ∨ ∃ a b, w = [a, b] ∧ 48 ≤ a ∧ a ≤ 57 ∧ 48 ≤ b ∧ b ≤ 57 := by
  obtain ⟨⟨h1, h2⟩, h3⟩ := h
  match w, h1, h2, h3 with
  | [a], _, _, h3 =>
    have := mem_dig.mp (h3 a (by simp))
    exact .inl ⟨a, rfl, this.1, this.2⟩
  | [a, b], _, _, h3 =>
    have q1 := mem_dig.mp (h3 a (by simp))
    have q2 := mem_dig.mp (h3 b (by simp))
    exact .inr ⟨a, b, rfl, q1.1, q1.2, q2.1, q2.2⟩
  | [], h1, _, _ => simp at h1
  | _ :: _ :: _ :: _, _, h2, _ => simp at h2
theorem val_bd {w : List Nat} (h : isNum w) : 0 ≤ val w ∧ val w ≤ 99 := by
  rcases isNum_cases h with ⟨a, rfl, h1, h2⟩ | ⟨a, b, rfl, h1, h2, h3, h4⟩
  · show 0 ≤ (a : Int) - 48 ∧ (a : Int) - 48 ≤ 99
    omega
  · show 0 ≤ ((a : Int) - 48) * 10 + ((b : Int) - 48) ∧ ((a : Int) - 48) * 10 + ((b : Int) - 48) ≤ 99
    omega
theorem num2_is {n : Nat} (h : n ≤ 99) : isNum (num2 n) ∧ val (num2 n) = n := by
  unfold num2
  by_cases c : n < 10
  · rw [if_pos c]
    refine ⟨⟨by simp, fun d hd => mem_dig.mpr ?_⟩, ?_⟩
    · rw [List.mem_singleton.mp hd]; omega
    · show ((48 + n : Nat) : Int) - 48 = n
      omega
  · rw [if_neg c]
    refine ⟨⟨by simp, fun d hd => mem_dig.mpr ?_⟩, ?_⟩
    · simp only [List.mem_cons, List.not_mem_nil, or_false] at hd
      omega
    · show (((48 + n / 10 : Nat) : Int) - 48) * 10 + (((48 + n % 10 : Nat) : Int) - 48) = n
      omega
def numIn (w : List Nat) : Int := if isNum w then val w else -1
def intg (w : List Nat) : Option Int := if isNum w then (if numT (val w) = w then some (val w) else none) else none
theorem numT_num {n : Int} (h0 : 0 ≤ n) (h1 : n ≤ 99) : isNum (numT n) ∧ val (numT n) = n := by
  obtain ⟨k, rfl⟩ := Int.eq_ofNat_of_zero_le h0
  rw [numT_eq (by omega)]
  exact num2_is (by omega)
theorem numIn_T {n : Int} (h0 : 0 ≤ n) (h1 : n ≤ 99) : numIn (numT n) = n := by
  obtain ⟨a, b⟩ := numT_num h0 h1
  unfold numIn
  rw [if_pos a, b]
theorem intg_iff {w : List Nat} {n : Int} : intg w = some n ↔ (0 ≤ n ∧ n ≤ 99) ∧ w = numT n := by
  unfold intg
  constructor
  · intro h
    split at h
    · rename_i c
      split at h
      · rename_i d
        cases h
        exact ⟨val_bd c, d.symm⟩
      · cases h
    · cases h
  · rintro ⟨⟨h0, h1⟩, rfl⟩
    obtain ⟨a, b⟩ := numT_num h0 h1
    rw [if_pos a, b, if_pos rfl]
theorem numT_free {n : Int} (h0 : 0 ≤ n) (h1 : n ≤ 99) : 10 ∉ numT n ∧ 32 ∉ numT n ∧ (∀ c ∈ numT n, c < 128) ∧ (numT n).length ≤ 2 ∧ numT n ≠ [] := by
  obtain ⟨⟨⟨a1, a2⟩, a3⟩, _⟩ := numT_num h0 h1
  refine ⟨fun z => ?_, fun z => ?_, fun c hc => ?_, a2, fun z => ?_⟩
  · have := mem_dig.mp (a3 _ z); omega
  · have := mem_dig.mp (a3 _ z); omega
  · have := mem_dig.mp (a3 _ hc); omega
  · rw [z] at a1; simp at a1
end Z
end
section
set_option maxHeartbeats 4000000
namespace Z
open PySem PySem.Spec L2
local macro_rules | `(tactic| trivial) => `(tactic| repeat (first
  | with_reducible refine WSt.h ?_
  | ((with_reducible apply w_rd_c); · assumption)
  | ((with_reducible apply w_rd_ok); · assumption)
  | ((with_reducible apply w_new); · first | rfl | assumption | (simp; done))
  | ((with_reducible apply len_ok); · rfl)
  | ((with_reducible apply len_eq); · rfl)
  | ((with_reducible apply w_is_int_ok); · assumption)
  | ((with_reducible apply w_is_bool_ok); · assumption)
  | ((with_reducible apply w_is_str_ok); · assumption)
  | ((with_reducible apply w_is_list_ok); · assumption)
  | ((with_reducible apply w_is_tuple_ok); · assumption)
  | ((with_reducible apply w_addT); · first | omega | (simp; omega) | (simp; done))
  | ((with_reducible apply w_addL); · first | omega | (simp; omega) | (simp; done))
  | ((with_reducible apply w_addC); · first | omega | (simp; omega) | (simp; done))
  | ((with_reducible apply w_mul); (· (first | assumption | (refine sm_om ?_; omega))); · (first | assumption | (refine sm_om ?_; omega)))
  | ((with_reducible apply w_div); (· omega); · (first | assumption | (refine sm_om ?_; omega)))
  | ((with_reducible apply w_mod); · first | omega | assumption)
  | ((with_reducible apply w_eqd); (· first | assumption | (simp; done) | (simp [okDs_cons']; done)); · first | assumption | (simp; done) | (simp [okDs_cons']; done))
  | ((with_reducible apply w_ned); (· first | assumption | (simp; done) | (simp [okDs_cons']; done)); · first | assumption | (simp; done) | (simp [okDs_cons']; done))
  | ((with_reducible apply w_ixt); · first | exact at_0 | exact at_1 | exact at_2 | exact at_3 | assumption)
  | ((with_reducible apply w_ixl); · first | exact at_0 | exact at_1 | exact at_2 | exact at_3 | assumption)
  | ((with_reducible apply w_ixf); · first | exact at_0 | exact at_1 | exact at_2 | exact at_3 | assumption)
  | ((with_reducible apply w_rng); · first | omega | (simp; omega) | (simp; done))
  | ((with_reducible apply w_endT); · first | rfl | assumption | (simp; done))
  | ((with_reducible apply w_endL); · first | rfl | assumption | (simp; done))
  | ((with_reducible apply if_d1); · first | assumption | omega)
  | ((with_reducible apply if_d0); · first | assumption | omega)
  | ((with_reducible apply if_n1); · first | assumption | omega)
  | ((with_reducible apply if_n0); · first | assumption | omega)))
open TL
def wHigh : List Nat := [104, 105, 103, 104]
def wWall : List Nat := [119, 97, 108, 108]
def wEnd : List Nat := [101, 110, 100]
def wallR (w : Int × Int × Int) : List (List Nat) := [wWall, numT w.1, numT w.2.1, numT w.2.2]
def linesH (h : Hl) : Rws := [wHigh, numT h.hh] :: (h.wl.map wallR ++ [[wEnd, numT h.e]])
def TT (h : Hl) : List Nat := J (linesH h)
theorem HOk.bd {h : Hl} (H : HOk h) : (0 ≤ h.hh ∧ h.hh ≤ 99) ∧ (0 ≤ h.e ∧ h.e ≤ 99) ∧ ∀ w ∈ h.wl, (0 ≤ w.1 ∧ w.1 ≤ 99) ∧ (0 ≤ w.2.1 ∧ w.2.1 ≤ 99) ∧ (0 ≤ w.2.2 ∧ w.2.2 ≤ 99) := by
  have h1 := H.h1; have h2 := H.h2; have h3 := H.e1; have h4 := H.e2
  refine ⟨by omega, by omega, fun w hw => ?_⟩
  obtain ⟨q1, q2, q3, q4, q5⟩ := H.w w hw
  omega
theorem lines_words {h : Hl} (H : HOk h) : ∀ p ∈ linesH h, p ≠ [] ∧ ∀ w ∈ p, 10 ∉ w ∧ 32 ∉ w ∧ (∀ c ∈ w, c < 128) ∧ w.length ≤ 4 := by
  obtain ⟨b1, b2, b3⟩ := H.bd
  have k1 : ∀ w ∈ [wHigh, wWall, wEnd], 10 ∉ w ∧ 32 ∉ w ∧ (∀ c ∈ w, c < 128) ∧ w.length ≤ 4 := by decide
  have kn : ∀ {n : Int}, 0 ≤ n ∧ n ≤ 99 → 10 ∉ numT n ∧ 32 ∉ numT n ∧ (∀ c ∈ numT n, c < 128) ∧ (numT n).length ≤ 4 := fun {n} hn => by
    obtain ⟨a1, a2, a3, a4, _⟩ := numT_free hn.1 hn.2
    exact ⟨a1, a2, a3, by omega⟩
  intro p hp
  unfold linesH at hp
  rcases List.mem_cons.mp hp with rfl | hp
  · refine ⟨by simp, fun w hw => ?_⟩
    rcases List.mem_cons.mp hw with rfl | hw
    · exact k1 _ (by simp)
    · rw [List.mem_singleton.mp hw]; exact kn b1
  · rcases List.mem_append.mp hp with hp | hp
    · obtain ⟨v, hv, rfl⟩ := List.mem_map.mp hp
      obtain ⟨c1, c2, c3⟩ := b3 v hv
      refine ⟨by simp [wallR], fun w hw => ?_⟩
      simp only [wallR, List.mem_cons, List.not_mem_nil, or_false] at hw
      rcases hw with rfl | rfl | rfl | rfl
      · exact k1 _ (by simp)
      · exact kn c1
      · exact kn c2
      · exact kn c3
    · rw [List.mem_singleton.mp hp]
      refine ⟨by simp, fun w hw => ?_⟩
      rcases List.mem_cons.mp hw with rfl | hw
      · exact k1 _ (by simp)
      · rw [List.mem_singleton.mp hw]; exact kn b2
theorem rows_TT {h : Hl} (H : HOk h) : rowsT (TT h) = linesH h :=
  rows_J (by simp [linesH]) (fun p hp => (lines_words H p hp).1) fun p hp w hw => ⟨((lines_words H p hp).2 w hw).1, ((lines_words H p hp).2 w hw).2.1⟩
/-! ### the program's reading -/
def numsP (x : List Nat) : List (List Int) := (rowsT x).map fun r => (r.drop 1).map numIn
def fD (a : Int) (m : List (List Int)) (b : Int) : D := .tuple [.int a, .tuple (m.map tupI), .int b]
def textL (a : Int) (m : List (List Int)) (b : Int) : List Nat := J ([wHigh, numT a] :: (m.map (fun l => wWall :: l.map numT) ++ [[wEnd, numT b]]))
def progF (ns : List (List Int)) : Option (Int × List (List Int) × Int) := match ns.head?, ns.getLast? with
  | some (a :: _), some (b :: _) => if 2 ≤ ns.length then some (a, (ns.drop 1).dropLast, b) else none
  | _, _ => none
def progRead (x : List Nat) : Option D := match progF (numsP x) with
  | none => none
  | some (a, m, b) => if isHall (fD a m b) = true ∧ textL a m b = x then some (fD a m b) else none
def wl3 (w : Int × Int × Int) : List Int := [w.1, w.2.1, w.2.2]
theorem tupI_wl (w : Int × Int × Int) : tupI (wl3 w) = wD w := rfl
theorem tupI_inj {t u : List Int} (h : tupI t = tupI u) : t = u := by
  unfold tupI at h
  injection h with h
  induction t generalizing u with
  | nil => cases u with
    | nil => rfl
    | cons x u => cases h
  | cons x t ih => cases u with
    | nil => cases h
    | cons y u =>
      rw [List.map_cons, List.map_cons] at h
      injection h with h1 h2
      injection h1 with h1
      rw [h1, ih h2]
theorem fD_hD {a b : Int} {m : List (List Int)} {h : Hl} (e : fD a m b = hD h) : a = h.hh ∧ b = h.e ∧ m = h.wl.map wl3 := by
  unfold fD hD at e
  injection e with e
  injection e with e1 e
  injection e with e2 e
  injection e with e3 _
  injection e1 with e1
  injection e2 with e2
  injection e3 with e3
  refine ⟨e1, e3, ?_⟩
  generalize h.wl = l at e2 ⊢
  induction m generalizing l with
  | nil => cases l with
    | nil => rfl
    | cons x l => cases e2
  | cons t m ih => cases l with
    | nil => cases e2
    | cons w l =>
      rw [List.map_cons, List.map_cons] at e2
      injection e2 with q1 q2
      rw [List.map_cons, ih l q2, tupI_inj (q1.trans (tupI_wl w).symm)]
theorem fD_of (h : Hl) : fD h.hh (h.wl.map wl3) h.e = hD h := by
  unfold fD hD
  rw [List.map_map]
  rfl
theorem text_of (h : Hl) : textL h.hh (h.wl.map wl3) h.e = TT h := by
  unfold textL TT linesH
  rw [List.map_map]
  rfl
theorem nums_TT {h : Hl} (H : HOk h) : numsP (TT h) = [h.hh] :: (h.wl.map wl3 ++ [[h.e]]) := by
  obtain ⟨b1, b2, b3⟩ := H.bd
  unfold numsP
  rw [rows_TT H]
  unfold linesH
  rw [List.map_cons, List.map_append, List.map_map]
  have e1 : (([wHigh, numT h.hh] : List (List Nat)).drop 1).map numIn = [h.hh] := by
    show [numIn (numT h.hh)] = _
    rw [numIn_T b1.1 b1.2]
  have e2 : [[wEnd, numT h.e]].map (fun r => (r.drop 1).map numIn) = [[h.e]] := by
    show [[numIn (numT h.e)]] = _
    rw [numIn_T b2.1 b2.2]
  rw [e1, e2]
  congr 2
  refine List.map_congr_left fun w hw => ?_
  obtain ⟨c1, c2, c3⟩ := b3 w hw
  show [numIn (numT w.1), numIn (numT w.2.1), numIn (numT w.2.2)] = _
  rw [numIn_T c1.1 c1.2, numIn_T c2.1 c2.2, numIn_T c3.1 c3.2]
  rfl
theorem progF_TT {a b : Int} {m : List (List Int)} : progF ([a] :: (m ++ [[b]])) = some (a, m, b) := by
  unfold progF
  have e : ([a] :: (m ++ [[b]])).getLast? = some [b] := by
    rw [← List.cons_append, List.getLast?_append]
    rfl
  rw [e]
  show (if 2 ≤ ([a] :: (m ++ [[b]])).length then some (a, (m ++ [[b]]).dropLast, b) else none) = _
  rw [if_pos (by simp), List.dropLast_concat]
theorem prog_iff {x : List Nat} {d : D} : progRead x = some d ↔ ∃ h, HOk h ∧ isHall (hD h) = true ∧ x = TT h ∧ d = hD h := by
  unfold progRead
  constructor
  · intro z
    split at z
    · cases z
    · rename_i a m b he
      split at z
      · rename_i c
        obtain ⟨h, e, H⟩ := hall_hl c.1
        obtain ⟨e1, e2, e3⟩ := fD_hD e
        subst e1 e2 e3
        rw [text_of] at c
        cases z
        refine ⟨h, H, by rw [← e]; exact c.1, c.2.symm, e⟩
      · cases z
  · rintro ⟨h, H, hi, rfl, rfl⟩
    rw [nums_TT H, progF_TT]
    dsimp only
    rw [fD_of, text_of, if_pos ⟨hi, rfl⟩]
/-! ### the law's reading -/
def intgD (w : List Nat) : D := match intg w with
  | some n => .int n
  | none => .none
def labels (n : Nat) : List (List Nat) := wHigh :: (List.replicate (n - 2) wWall ++ [wEnd])
def headW (p : List (List Nat)) : List Nat := p.headD []
def lawF (ps : List (List D)) : Option D := match ps.head?, ps.getLast? with
  | some [a], some [b] => some (.tuple [a, .tuple (((ps.drop 1).dropLast).map .tuple), b])
  | _, _ => none
def lawRead (x : List Nat) : Option D :=
  if 2 ≤ (rowsT x).length ∧ (rowsT x).map headW = labels (rowsT x).length then
    match lawF ((rowsT x).map fun r => (r.drop 1).map intgD) with
    | none => none
    | some f => if isHall f = true then some f else none
  else none
theorem intgD_int {w : List Nat} {n : Int} (h : intgD w = .int n) : (0 ≤ n ∧ n ≤ 99) ∧ w = numT n := by
  unfold intgD at h
  split at h
  · rename_i k e
    cases h
    exact intg_iff.mp e
  · cases h
theorem intgD_T {n : Int} (h0 : 0 ≤ n) (h1 : n ≤ 99) : intgD (numT n) = .int n := by
  unfold intgD
  rw [intg_iff.mpr ⟨⟨h0, h1⟩, rfl⟩]
theorem ends_of {α : Type} {l : List α} (h : 2 ≤ l.length) : ∃ a m b, l = a :: (m ++ [b]) := by
  match l, h with
  | a :: b :: r, _ =>
    exact ⟨a, (b :: r).dropLast, (b :: r).getLast (by simp), by rw [List.dropLast_concat_getLast]⟩
theorem lawF_ends {a b : List D} {m : List (List D)} : lawF (a :: (m ++ [b])) = match a, b with
    | [x], [y] => some (.tuple [x, .tuple (m.map .tuple), y])
    | _, _ => none := by
  unfold lawF
  have e : (a :: (m ++ [b])).getLast? = some b := by
    rw [← List.cons_append, List.getLast?_append]
    rfl
  rw [e]
  have e2 : ((a :: (m ++ [b])).drop 1).dropLast = m := by
    show (m ++ [b]).dropLast = m
    rw [List.dropLast_concat]
  rw [e2]
  show (match some a, some b with
    | some [x], some [y] => some (D.tuple [x, D.tuple (List.map D.tuple m), y])
    | _, _ => none) = _
  match a, b with
  | [_], [_] => rfl
  | [], _ => rfl
  | _ :: _ :: _, _ => rfl
  | [_], [] => rfl
  | [_], _ :: _ :: _ => rfl
theorem wall_row {p : List (List Nat)} {w : Int × Int × Int} (hp : p ≠ []) (h1 : headW p = wWall) (h2 : D.tuple ((p.drop 1).map intgD) = wD w) : p = wallR w := by
  match p, hp with
  | q :: r, _ =>
    have e : q = wWall := h1
    subst e
    unfold wD at h2
    injection h2 with h2
    match r, h2 with
    | [x, y, z], h2 =>
      have h2 : [intgD x, intgD y, intgD z] = [.int w.1, .int w.2.1, .int w.2.2] := h2
      injection h2 with q1 h2
      injection h2 with q2 h2
      injection h2 with q3 _
      unfold wallR
      rw [← (intgD_int q1).2, ← (intgD_int q2).2, ← (intgD_int q3).2]
    | [], h2 => cases h2
    | [_], h2 => simp at h2
    | [_, _], h2 => simp at h2
    | _ :: _ :: _ :: _ :: _, h2 => simp at h2
theorem walls_rows : ∀ {m : Rws} {l : List (Int × Int × Int)}, (∀ p ∈ m, p ≠ []) → m.map headW = List.replicate m.length wWall → (m.map fun r => D.tuple ((r.drop 1).map intgD)) = l.map wD → m = l.map wallR
  | [], [], _, _, _ => rfl
  | [], _ :: _, _, _, h => by cases h
  | _ :: _, [], _, _, h => by cases h
  | p :: m, w :: l, h0, h1, h2 => by
    rw [List.map_cons, List.length_cons, List.replicate_succ] at h1
    rw [List.map_cons, List.map_cons] at h2
    injection h1 with a1 a2
    injection h2 with b1 b2
    rw [List.map_cons, wall_row (h0 p (by simp)) a1 b1, walls_rows (fun q hq => h0 q (by simp [hq])) a2 b2]
theorem law_iff {x : List Nat} {d : D} : lawRead x = some d ↔ ∃ h, HOk h ∧ isHall (hD h) = true ∧ x = TT h ∧ d = hD h := by
  unfold lawRead
  constructor
  · intro z
    split at z
    · rename_i c
      obtain ⟨c1, c2⟩ := c
      obtain ⟨a, m, b, er⟩ := ends_of c1
      have ne := (rows_ne x).2
      have ex := J_rows x
      rw [er] at z c2 ne ex
      rw [List.map_cons, List.map_append, List.map_cons, List.map_nil, lawF_ends] at z
      have lm : (a :: (m ++ [b])).length - 2 = m.length := by simp
      unfold labels at c2
      rw [lm, List.map_cons, List.map_append, List.map_cons, List.map_nil] at c2
      injection c2 with l1 c2
      obtain ⟨l2, l3⟩ := List.append_inj c2 (by simp)
      injection l3 with l3 _
      match a, b, ne a (by simp), ne b (by simp), z with
      | [q, x0], [t, y0], _, _, z =>
        have e1 : q = wHigh := l1
        have e2 : t = wEnd := l3
        subst e1 e2
        have z : (if isHall (D.tuple [intgD x0, .tuple ((m.map fun r => (r.drop 1).map intgD).map .tuple), intgD y0]) = true then some (D.tuple [intgD x0, .tuple ((m.map fun r => (r.drop 1).map intgD).map .tuple), intgD y0]) else none) = some d := z
        split at z
        · rename_i hi
          cases z
          obtain ⟨h, e, H⟩ := hall_hl hi
          rw [e] at hi
          rw [List.map_map] at e
          unfold hD at e
          injection e with e
          injection e with q1 e
          injection e with q2 e
          injection e with q3 _
          injection q2 with q2
          have em := walls_rows (m := m) (l := h.wl) (fun p hp => ne p (by simp [hp])) l2 q2
          refine ⟨h, H, hi, ?_, ?_⟩
          · rw [← ex, em, (intgD_int q1).2, (intgD_int q3).2]
            rfl
          · rw [q1, q3]
            show D.tuple [.int h.hh, .tuple (List.map D.tuple (List.map (fun r => (r.drop 1).map intgD) m)), .int h.e] = _
            rw [List.map_map]
            unfold hD
            rw [← q2]
        · cases z
      | [_], _, _, _, z => cases z
      | _ :: _ :: _ :: _, _, _, _, z => cases z
      | [_, _], [_], _, _, z => cases z
      | [_, _], _ :: _ :: _ :: _, _, _, z => cases z
    · cases z
  · rintro ⟨h, H, hi, rfl, rfl⟩
    obtain ⟨b1, b2, b3⟩ := H.bd
    rw [rows_TT H]
    have ln : (linesH h).length = h.wl.length + 2 := by simp [linesH]
    have lb : (linesH h).map headW = labels (linesH h).length := by
      rw [ln]
      unfold linesH labels
      rw [List.map_cons, List.map_append, List.map_map]
      have : h.wl.map (headW ∘ wallR) = List.replicate (h.wl.length + 2 - 2) wWall := by
        rw [Nat.add_sub_cancel]
        generalize h.wl = l
        induction l with
        | nil => rfl
        | cons w l ih => rw [List.map_cons, ih, List.length_cons, List.replicate_succ]; rfl
      rw [this]
      rfl
    rw [if_pos ⟨by omega, lb⟩]
    have e : (linesH h).map (fun r => (r.drop 1).map intgD) = [D.int h.hh] :: (h.wl.map (fun w => [D.int w.1, .int w.2.1, .int w.2.2]) ++ [[D.int h.e]]) := by
      unfold linesH
      rw [List.map_cons, List.map_append, List.map_map]
      have e1 : (([wHigh, numT h.hh] : List (List Nat)).drop 1).map intgD = [D.int h.hh] := by
        show [intgD (numT h.hh)] = _
        rw [intgD_T b1.1 b1.2]
      have e2 : [[wEnd, numT h.e]].map (fun r => (r.drop 1).map intgD) = [[D.int h.e]] := by
        show [[intgD (numT h.e)]] = _
        rw [intgD_T b2.1 b2.2]
      rw [e1, e2]
      congr 2
      refine List.map_congr_left fun w hw => ?_
      obtain ⟨c1, c2, c3⟩ := b3 w hw
      show [intgD (numT w.1), intgD (numT w.2.1), intgD (numT w.2.2)] = _
      rw [intgD_T c1.1 c1.2, intgD_T c2.1 c2.2, intgD_T c3.1 c3.2]
    rw [e, lawF_ends]
    dsimp only
    have e3 : D.tuple [.int h.hh, .tuple ((h.wl.map fun w => [D.int w.1, .int w.2.1, .int w.2.2]).map .tuple), .int h.e] = hD h := by
      unfold hD
      rw [List.map_map]
      rfl
    rw [e3, if_pos hi]
theorem law_prog (x : List Nat) : lawRead x = progRead x := by
  cases e : progRead x with
  | none =>
    cases e2 : lawRead x with
    | none => rfl
    | some d =>
      rw [prog_iff.mpr (law_iff.mp e2)] at e
      cases e
  | some d => exact law_iff.mpr (prog_iff.mp e)
end Z
end
section
set_option maxHeartbeats 4000000
namespace Z
open PySem PySem.Spec L2
local macro_rules | `(tactic| trivial) => `(tactic| repeat (first
  | with_reducible refine WSt.h ?_
  | ((with_reducible apply w_rd_c); · assumption)
  | ((with_reducible apply w_rd_ok); · assumption)
  | ((with_reducible apply w_new); · first | rfl | assumption | (simp; done))
  | ((with_reducible apply len_ok); · rfl)
  | ((with_reducible apply len_eq); · rfl)
  | ((with_reducible apply w_is_int_ok); · assumption)
  | ((with_reducible apply w_is_bool_ok); · assumption)
  | ((with_reducible apply w_is_str_ok); · assumption)
  | ((with_reducible apply w_is_list_ok); · assumption)
  | ((with_reducible apply w_is_tuple_ok); · assumption)
  | ((with_reducible apply w_addT); · first | omega | (simp; omega) | (simp; done))
  | ((with_reducible apply w_addL); · first | omega | (simp; omega) | (simp; done))
  | ((with_reducible apply w_addC); · first | omega | (simp; omega) | (simp; done))
  | ((with_reducible apply w_mul); (· (first | assumption | (refine sm_om ?_; omega))); · (first | assumption | (refine sm_om ?_; omega)))
  | ((with_reducible apply w_div); (· omega); · (first | assumption | (refine sm_om ?_; omega)))
  | ((with_reducible apply w_mod); · first | omega | assumption)
  | ((with_reducible apply w_eqd); (· first | assumption | (simp; done) | (simp [okDs_cons']; done)); · first | assumption | (simp; done) | (simp [okDs_cons']; done))
  | ((with_reducible apply w_ned); (· first | assumption | (simp; done) | (simp [okDs_cons']; done)); · first | assumption | (simp; done) | (simp [okDs_cons']; done))
  | ((with_reducible apply w_ixt); · first | exact at_0 | exact at_1 | exact at_2 | exact at_3 | assumption)
  | ((with_reducible apply w_ixl); · first | exact at_0 | exact at_1 | exact at_2 | exact at_3 | assumption)
  | ((with_reducible apply w_ixf); · first | exact at_0 | exact at_1 | exact at_2 | exact at_3 | assumption)
  | ((with_reducible apply w_rng); · first | omega | (simp; omega) | (simp; done))
  | ((with_reducible apply w_endT); · first | rfl | assumption | (simp; done))
  | ((with_reducible apply w_endL); · first | rfl | assumption | (simp; done))
  | ((with_reducible apply if_d1); · first | assumption | omega)
  | ((with_reducible apply if_d0); · first | assumption | omega)
  | ((with_reducible apply if_n1); · first | assumption | omega)
  | ((with_reducible apply if_n0); · first | assumption | omega)))
open TL
abbrev tx (l : List Nat) : Str := ⟨l.toArray⟩
abbrev txD (l : List Nat) : D := .str ⟨l.toArray⟩
theorem tx_app (a b : List Nat) : tx a ++ tx b = tx (a ++ b) := ext_tl (by rw [tl_append])
theorem tx_len (a : List Nat) : (tx a).length = a.length := len_tl _
theorem txD_inj {a b : List Nat} : txD a = txD b ↔ a = b := ⟨fun h => by injection h with h; have := congrArg tl h; exact this, fun h => by rw [h]⟩
def Pt (l : List Nat) : Prop := ∀ c ∈ l, c < 128
theorem Pt.app {a b : List Nat} (h : Pt a) (k : Pt b) : Pt (a ++ b) := fun c hc => (List.mem_append.mp hc).elim (h c) (k c)
theorem okD_tx {n : Nat} {l : List Nat} (h : Pt l) : okD n (txD l) = true := by
  rw [okD_str]
  unfold PyData.strOk
  show l.toArray.all _ = true
  rw [← Array.all_toList, List.all_eq_true]
  intro c hc
  have := h c hc
  exact decide_eq_true (by omega)
theorem eqD_tx {a b : List Nat} : eqD (txD a) (txD b) = decide (a = b) := by
  show (tx a == tx b) = _
  by_cases h : a = b
  · subst h; simp
  · rw [decide_eq_false h]
    exact beq_eq_false_iff_ne.mpr fun z => h (congrArg tl z)
theorem eqDs_tx : ∀ {a b : List (List Nat)}, eqDs (a.map txD) (b.map txD) = decide (a = b)
  | [], [] => rfl
  | [], _ :: _ => by simp [eqDs]
  | _ :: _, [] => by simp [eqDs]
  | x :: a, y :: b => by
    rw [List.map_cons, List.map_cons, eqDs, eqD_tx, eqDs_tx]
    by_cases h : x = y <;> by_cases k : a = b <;> simp [h, k]
theorem tx_ofList {l : List Str} {m : List (List Nat)} (h : l.map tl = m) : l.map D.str = m.map txD := by
  subst h
  rw [List.map_map]
  exact List.map_congr_left fun x _ => by
    show D.str x = .str ⟨(tl x).toArray⟩
    rw [mk_tl]
theorem strD_tx : ∀ ps : List (List Nat), strD (ps.map txD) = some (ps.map tx)
  | [] => rfl
  | p :: ps => by
    rw [List.map_cons]
    show (strD (ps.map txD)).map _ = _
    rw [strD_tx ps]
    rfl
section
variable {S : Store} {P : D → Store → Prop} {PI : Its → Store → Prop} {PS : Str → Store → Prop} {E : Str → Store → Prop} {env : Ev} {f g : BE} {fs : List BE} {z acc y : Str} {lo hi : BO} {h : Str → D → M D} {l m : List Nat}
instance i_eS1 : WSt (W (eS1 h f g env) S P E) (W (f env) S (fun a S1 => W (isStr a) S1 (fun s S2 => W (g env) S2 (fun b S3 => W (h s b) S3 P E) E) E) E) := ⟨fun H => by
  unfold eS1
  simp only [W_bind]
  exact H⟩
instance i_isStr : WSt (W (isStr (.str z)) S PS E) (PS z S) := ⟨fun H => H⟩
instance i_eFmt : WSt (W (eFmt f env) S P E) (W (f env) S (fun a S1 => W (gFmt a) S1 P E) E) := ⟨fun H => by
  unfold eFmt
  rw [W_bind]
  exact H⟩
instance i_jn0 : WSt (W (jnM [] acc env) S PS E) (PS acc S) := ⟨fun H => H⟩
instance i_jn1 : WSt (W (jnM (f :: fs) acc env) S PS E) (W (f env) S (fun a S1 => W (jnS acc a) S1 (fun s S2 => W (jnM fs s env) S2 PS E) E) E) := ⟨fun H => by
  rw [jnM]
  simp only [W_bind]
  exact H⟩
instance i_eJoined : WSt (W (eJoined fs env) S P E) (W (jnM fs (tx []) env) S (fun s S1 => P (.str s) S1) E) := ⟨fun H => by
  unfold eJoined
  rw [W_bind]
  exact H⟩
instance i_iTxt : WSt (W (iTxt f env) S PI E) (W (f env) S (fun a S1 => W (toTxt a) S1 PI E) E) := ⟨fun H => by
  unfold iTxt
  rw [W_bind]
  exact H⟩
instance i_toTxt : WSt (W (toTxt (.str z)) S PI E) (PI ⟨charsD z, fun _ => true⟩ S) := ⟨fun H => H⟩
instance i_eSlS : WSt (W (eSlS f lo hi env) S P E) (W (f env) S (fun a S1 => W (lo env) S1 (fun l S2 => W (hi env) S2 (fun r S3 => W (gSlS a l r) S3 P E) E) E) E) := ⟨fun H => by
  unfold eSlS
  simp only [W_bind]
  exact H⟩
theorem w_txadd (hl : l.length + m.length ≤ 1000000) (H : P (txD (l ++ m)) S) : W (gAdd (txD l) (txD m)) S P E := by
  unfold gAdd
  dsimp only
  rw [tx_len, tx_len, if_pos hl, tx_app]
  exact H
theorem w_jns (hl : l.length + m.length ≤ 1000000) (H : PS (tx (l ++ m)) S) : W (jnS (tx l) (txD m)) S PS E := by
  unfold jnS
  dsimp only
  rw [tx_app, tx_len, List.length_append, if_pos hl]
  exact H
theorem w_txlen (hl : l.length ≤ 1000000) (H : P (.int l.length) S) : W (gLen (txD l)) S P E := by
  unfold gLen
  dsimp only
  rw [tx_len, if_pos hl]
  exact H
theorem w_txsplit {s : Nat} (hs : s < 256) (hl : l.length ≤ 1000000) (H : P (.list ((spl [s] 0 [] l).map txD)) S) : W (gSplit (tx l) (txD [s])) S P E := by
  unfold gSplit
  dsimp only
  rw [tx_len, tx_len, if_pos ⟨rfl, hl⟩]
  have e := split_spl (tx l) (tx [s]) (by simp) (kind_ok (by simpa using hs))
  rw [tx_ofList e]
  exact H
theorem join_len {s : Nat} : ∀ ps : List (List Nat), (joinL [s] ps).length ≤ (ps.map (·.length)).sum + ps.length
  | [] => Nat.zero_le _
  | [p] => by
    show p.length ≤ _
    simp
  | p :: q :: r => by
    show (p ++ ([s] ++ joinL [s] (q :: r))).length ≤ _
    have := join_len (s := s) (q :: r)
    simp only [List.length_append, List.map_cons, List.sum_cons, List.length_cons, List.length_nil] at this ⊢
    omega
theorem w_txjoin {s : Nat} {ps : List (List Nat)} (hl : (ps.map (·.length)).sum + ps.length ≤ 1000000) (H : P (txD (joinL [s] ps)) S) : W (gJoin (tx [s]) (.list (ps.map txD))) S P E := by
  unfold gJoin
  dsimp only
  rw [strD_tx]
  have e : ((ps.map tx).map (·.length)).sum + (ps.map tx).length * (tx [s]).length = (ps.map (·.length)).sum + ps.length := by
    rw [List.map_map, tx_len, List.length_map]
    have : (ps.map ((·.length) ∘ tx)) = ps.map (·.length) := List.map_congr_left fun p _ => tx_len p
    rw [this]
    simp
  dsimp only [Option.bind_some]
  rw [e, if_pos hl]
  have : Txt.join (tx [s]) (ps.map tx) = tx (joinL [s] ps) := ext_tl (by
    rw [join_eq, tl_join, List.map_map]
    have : ps.map (tl ∘ tx) = ps := by
      have : ps.map (tl ∘ tx) = ps.map id := List.map_congr_left fun p _ => rfl
      rw [this, List.map_id]
    rw [this])
  rw [this]
  exact H
theorem w_txslice {a b : Option Int} (hl : l.length ≤ 1000000) (H : P (.str (cutS (tx l) a b)) S) : W (gSlS (txD l) a b) S P E := by
  unfold gSlS
  dsimp only
  rw [tx_len, if_pos hl]
  exact H
theorem w_sign {ng : Bool} {c : Nat} (H : P (.bool (ng ^^ decide (c ∈ l))) S) : W (gIn ng (.str ⟨#[c]⟩) (txD l)) S P E := by
  unfold gIn
  dsimp only
  rw [PySem.StrLaws.found_one]
  exact H
theorem log_small {n : Int} (h0 : 0 ≤ n) (h1 : n ≤ 99) : n.natAbs.log2 < 1920 := by
  have : n.natAbs < 2 ^ 7 := by omega
  by_cases c : n.natAbs = 0
  · rw [c]; decide
  · have := (Nat.log2_lt c).mpr (show n.natAbs < 2 ^ 7 by omega)
    omega
theorem num_tx (n : Int) : (D.str (toString n)) = txD (numT n) := by
  unfold numT txD
  rw [mk_tl]
theorem w_fmt {n : Int} (h0 : 0 ≤ n) (h1 : n ≤ 99) (H : P (txD (numT n)) S) : W (gFmt (.int n)) S P E := by
  unfold gFmt
  dsimp only
  rw [if_pos (log_small h0 h1), num_tx]
  exact H
theorem w_strI {n : Int} (h0 : 0 ≤ n) (h1 : n ≤ 99) (H : P (txD (numT n)) S) : W (gStrI (.int n)) S P E := by
  unfold gStrI
  dsimp only
  rw [if_pos (log_small h0 h1), num_tx]
  exact H
theorem w_intS {w : List Nat} (h : isNum w) (H : P (.int (val w)) S) : W (gIntS (txD w)) S P E := by
  unfold gIntS
  dsimp only
  have hd : NumText.AllDigits (tx w).cps.toList := fun c hc => by
    have := mem_dig.mp (h.2 c hc)
    exact this
  have hl : (tx w).length ≤ 640 := by rw [tx_len]; have := h.1.2; omega
  have e : intText? (tx w) = some (val w) := by
    rw [intText_digits hd (by
      have := h.1.1
      intro z
      have z : w = [] := z
      rw [z] at this
      simp at this) (by omega)]
    rcases isNum_cases h with ⟨a, rfl, h1, h2⟩ | ⟨a, b, rfl, h1, h2, h3, h4⟩
    · simp [NumText.digitsVal, val]
      omega
    · simp [NumText.digitsVal, val]
      omega
  rw [if_pos hl, e]
  exact H
end
end Z
end
section
set_option maxHeartbeats 4000000
namespace Z
open PySem PySem.Spec L2
local macro_rules | `(tactic| trivial) => `(tactic| repeat (first
  | with_reducible refine WSt.h ?_
  | ((with_reducible apply w_rd_c); · assumption)
  | ((with_reducible apply w_rd_ok); · assumption)
  | ((with_reducible apply w_new); · first | rfl | assumption | (simp; done))
  | ((with_reducible apply len_ok); · rfl)
  | ((with_reducible apply len_eq); · rfl)
  | ((with_reducible apply w_is_int_ok); · assumption)
  | ((with_reducible apply w_is_bool_ok); · assumption)
  | ((with_reducible apply w_is_str_ok); · assumption)
  | ((with_reducible apply w_is_list_ok); · assumption)
  | ((with_reducible apply w_is_tuple_ok); · assumption)
  | ((with_reducible apply w_addT); · first | omega | (simp; omega) | (simp; done))
  | ((with_reducible apply w_addL); · first | omega | (simp; omega) | (simp; done))
  | ((with_reducible apply w_addC); · first | omega | (simp; omega) | (simp; done))
  | ((with_reducible apply w_mul); (· (first | assumption | (refine sm_om ?_; omega))); · (first | assumption | (refine sm_om ?_; omega)))
  | ((with_reducible apply w_div); (· omega); · (first | assumption | (refine sm_om ?_; omega)))
  | ((with_reducible apply w_mod); · first | omega | assumption)
  | ((with_reducible apply w_eqd); (· first | assumption | (simp; done) | (simp [okDs_cons']; done)); · first | assumption | (simp; done) | (simp [okDs_cons']; done))
  | ((with_reducible apply w_ned); (· first | assumption | (simp; done) | (simp [okDs_cons']; done)); · first | assumption | (simp; done) | (simp [okDs_cons']; done))
  | ((with_reducible apply w_ixt); · first | exact at_0 | exact at_1 | exact at_2 | exact at_3 | assumption)
  | ((with_reducible apply w_ixl); · first | exact at_0 | exact at_1 | exact at_2 | exact at_3 | assumption)
  | ((with_reducible apply w_ixf); · first | exact at_0 | exact at_1 | exact at_2 | exact at_3 | assumption)
  | ((with_reducible apply w_rng); · first | omega | (simp; omega) | (simp; done))
  | ((with_reducible apply w_endT); · first | rfl | assumption | (simp; done))
  | ((with_reducible apply w_endL); · first | rfl | assumption | (simp; done))
  | ((with_reducible apply if_d1); · first | assumption | omega)
  | ((with_reducible apply if_d0); · first | assumption | omega)
  | ((with_reducible apply if_n1); · first | assumption | omega)
  | ((with_reducible apply if_n0); · first | assumption | omega)
  | ((with_reducible apply w_txadd); · first | omega | (simp; omega) | (simp; done))
  | ((with_reducible apply w_jns); · first | omega | (simp; omega) | (simp; done))
  | ((with_reducible apply w_txlen); · first | omega | (simp; omega) | (simp; done))
  | ((with_reducible apply w_txslice); · first | omega | (simp; omega) | (simp; done))
  | ((with_reducible apply w_txsplit); (· decide); · first | omega | (simp; omega) | (simp; done))
  | ((with_reducible apply w_fmt); (· first | assumption | omega); · first | assumption | omega)
  | ((with_reducible apply w_strI); (· first | assumption | omega); · first | assumption | omega)))
open TL
theorem lc_go2 {α : Type} {t : Tg} {f : BE} {env : Ev} {gd : Store → Bool} {g : α → D} {ε : α → Ev} {φ : α → D} (hg : ∀ S, gd S = true) : ∀ {ds : List α} {acc : List D} {S : Store}, (∀ d ∈ ds, ∀ S, asg S t (g d) env = some (ε d)) → (∀ d ∈ ds, f (ε d) = pure (φ d)) → acc.length + ds.length ≤ 1000000 → compM gd t bYes f env (ds.map g) acc S = .ok (acc ++ ds.map φ) S
  | [], acc, S, _, _, _ => by
    rw [List.map_nil, compM, if_pos (hg S)]
    simp
  | d :: ds, acc, S, ha, hf, hl => by
    rw [List.length_cons] at hl
    rw [List.map_cons, compM, if_pos (hg S), ha d (by simp) S]
    dsimp only [bYes]
    rw [hf d (by simp)]
    dsimp only [pure_ap]
    rw [if_pos (by omega), lc_go2 hg (fun x hx => ha x (List.mem_cons_of_mem _ hx)) (fun x hx => hf x (List.mem_cons_of_mem _ hx)) (by simp; omega)]
    simp
/-- a comprehension over data made from xs -/
theorem lc_of {α : Type} {t : Tg} {f : BE} {env : Ev} {p : Its} {xs : List α} {g : α → D} (ε : α → Ev) (φ : α → D) (hg : ∀ S, p.gd S = true) (hp : p.ds = xs.map g) (ha : ∀ d ∈ xs, ∀ S, asg S t (g d) env = some (ε d)) (hf : ∀ d ∈ xs, f (ε d) = pure (φ d)) (hl : xs.length ≤ 1000000) : runLc t bYes f env p = pure (xs.map φ) := by
  funext S
  unfold runLc
  rw [hp, lc_go2 hg ha hf (by simpa using hl)]
  simp
theorem hD_eq {h : Hl} : hD h = .tuple [.int h.hh, .tuple (h.wl.map wD), .int h.e] := rfl
theorem k_wall : D.str "wall " = txD [119, 97, 108, 108, 32] := rfl
theorem k_high : D.str "high " = txD [104, 105, 103, 104, 32] := rfl
theorem k_end : D.str "end " = txD [101, 110, 100, 32] := rfl
theorem k_bl : D.str " " = txD [32] := rfl
theorem k_nl : D.str "\n" = txD [10] := rfl
theorem k_emp : Str.empty = tx [] := rfl
theorem sum_le {b : Nat} : ∀ {l : List (List Nat)}, (∀ p ∈ l, p.length ≤ b) → (l.map (·.length)).sum ≤ b * l.length
  | [], _ => by simp
  | p :: l, h => by
    have h1 := h p (by simp)
    have h2 := sum_le (b := b) (l := l) fun q hq => h q (by simp [hq])
    rw [List.map_cons, List.sum_cons, List.length_cons, Nat.mul_succ]
    omega
theorem linesH_len {h : Hl} (H : HOk h) : (linesH h).length ≤ 5 := by
  have := H.wl3
  simp [linesH]
  omega
theorem line_le {h : Hl} (H : HOk h) : ∀ p ∈ (linesH h).map (joinL [32]), p.length ≤ 20 := by
  intro q hq
  obtain ⟨p, hp, rfl⟩ := List.mem_map.mp hq
  have h1 := join_len (s := 32) p
  have h2 := sum_le (b := 4) (l := p) fun w hw => ((lines_words H p hp).2 w hw).2.2.2
  have h3 : p.length ≤ 4 := by
    unfold linesH at hp
    rcases List.mem_cons.mp hp with rfl | hp
    · simp
    · rcases List.mem_append.mp hp with hp | hp
      · obtain ⟨w, _, rfl⟩ := List.mem_map.mp hp
        simp [wallR]
      · rw [List.mem_singleton.mp hp]; simp
  omega
theorem lines_len {h : Hl} (H : HOk h) : ((((linesH h).map (joinL [32])).map (·.length)).sum) ≤ 100 := by
  have h1 := sum_le (line_le H)
  have h2 := linesH_len H
  rw [List.length_map] at h1
  omega
theorem TT_len {h : Hl} (H : HOk h) : (TT h).length ≤ 105 := by
  have h1 := join_len (s := 10) ((linesH h).map (joinL [32]))
  have h2 := lines_len H
  have h3 := linesH_len H
  rw [List.length_map] at h1
  unfold TT J
  omega
theorem TT_pt {h : Hl} (H : HOk h) : Pt (TT h) := by
  intro c hc
  rcases mem_joinL hc with hc | ⟨q, hq, hc⟩
  · rw [List.mem_singleton.mp hc]; decide
  · obtain ⟨p, hp, rfl⟩ := List.mem_map.mp hq
    rcases mem_joinL hc with hc | ⟨w, hw, hc⟩
    · rw [List.mem_singleton.mp hc]; decide
    · exact ((lines_words H p hp).2 w hw).2.2.1 c hc
theorem m_as_text {h : Hl} (H : HOk h) : r_as_text [hD h] = pure (txD (TT h)) := by
  obtain ⟨b1, b2, b3⟩ := H.bd
  obtain ⟨b1, b1'⟩ := b1
  obtain ⟨b2, b2'⟩ := b2
  have w3 := H.wl3
  have n1 := (numT_free b1 b1').2.2.2.1
  have n2 := (numT_free b2 b2').2.2.2.1
  refine W_eq fun S => ?_
  unfold r_as_text
  rw [W_fnT]
  unfold b_as_text
  rw [k_wall, k_high, k_end, k_bl, k_nl]
  show WS _ [some (hD h), none, none, none, none, none, none, none] S _ _ _
  rw [hD_eq]
  trivial
  refine w_eq (lc_of (xs := h.wl) (g := wD) (fun w => [some (.tuple [.int h.hh, .tuple (h.wl.map wD), .int h.e]), some (.int h.hh), some (.tuple (h.wl.map wD)), some (.int h.e), none, some (.int w.1), some (.int w.2.1), some (.int w.2.2)]) (fun w => txD (joinL [32] (wallR w))) (fun _ => rfl) rfl (fun w _ S => rfl) (fun w hw => ?_) (by omega)) ?_
  · obtain ⟨⟨c1, c1'⟩, ⟨c2, c2'⟩, c3, c3'⟩ := b3 w hw
    have m1 := (numT_free c1 c1').2.2.2.1
    have m2 := (numT_free c2 c2').2.2.2.1
    have m3 := (numT_free c3 c3').2.2.2.1
    refine W_eq fun S => ?_
    trivial
    refine ⟨?_, rfl⟩
    rw [txD_inj]
    simp [wallR, joinL, wWall]
  have ef : (fun w => txD (joinL [32] (wallR w))) = txD ∘ (fun w => joinL [32] (wallR w)) := rfl
  rw [ef, ← List.map_map]
  trivial
  have e : [D.str (tx ([] ++ [104, 105, 103, 104, 32] ++ numT h.hh))] ++ List.map txD (List.map (fun w => joinL [32] (wallR w)) h.wl) ++ [D.str (tx ([] ++ [101, 110, 100, 32] ++ numT h.e))] = ((linesH h).map (joinL [32])).map txD := by
    unfold linesH
    rw [List.map_cons, List.map_cons, List.map_append, List.map_append, List.map_map (f := wallR)]
    rfl
  rw [e]
  refine w_txjoin (s := 10) ?_ ?_
  · have := lines_len H
    have := linesH_len H
    rw [List.length_map]
    omega
  · trivial
    exact ⟨rfl, by simp⟩
end Z
end
section
set_option maxHeartbeats 4000000
namespace Z
open PySem PySem.Spec L2
local macro_rules | `(tactic| trivial) => `(tactic| repeat (first
  | with_reducible refine WSt.h ?_
  | ((with_reducible apply w_rd_c); · assumption)
  | ((with_reducible apply w_rd_ok); · assumption)
  | ((with_reducible apply w_new); · first | rfl | assumption | (simp; done))
  | ((with_reducible apply len_ok); · rfl)
  | ((with_reducible apply len_eq); · rfl)
  | ((with_reducible apply w_is_int_ok); · assumption)
  | ((with_reducible apply w_is_bool_ok); · assumption)
  | ((with_reducible apply w_is_str_ok); · assumption)
  | ((with_reducible apply w_is_list_ok); · assumption)
  | ((with_reducible apply w_is_tuple_ok); · assumption)
  | ((with_reducible apply w_addT); · first | omega | (simp; omega) | (simp; done))
  | ((with_reducible apply w_addL); · first | omega | (simp; omega) | (simp; done))
  | ((with_reducible apply w_addC); · first | omega | (simp; omega) | (simp; done))
  | ((with_reducible apply w_mul); (· (first | assumption | (refine sm_om ?_; omega))); · (first | assumption | (refine sm_om ?_; omega)))
  | ((with_reducible apply w_div); (· omega); · (first | assumption | (refine sm_om ?_; omega)))
  | ((with_reducible apply w_mod); · first | omega | assumption)
  | ((with_reducible apply w_eqd); (· first | assumption | (simp; done) | (simp [okDs_cons']; done)); · first | assumption | (simp; done) | (simp [okDs_cons']; done))
  | ((with_reducible apply w_ned); (· first | assumption | (simp; done) | (simp [okDs_cons']; done)); · first | assumption | (simp; done) | (simp [okDs_cons']; done))
  | ((with_reducible apply w_ixt); · first | exact at_0 | exact at_1 | exact at_2 | exact at_3 | assumption)
  | ((with_reducible apply w_ixl); · first | exact at_0 | exact at_1 | exact at_2 | exact at_3 | assumption)
  | ((with_reducible apply w_ixf); · first | exact at_0 | exact at_1 | exact at_2 | exact at_3 | assumption)
  | ((with_reducible apply w_rng); · first | omega | (simp; omega) | (simp; done))
  | ((with_reducible apply w_endT); · first | rfl | assumption | (simp; done))
  | ((with_reducible apply w_endL); · first | rfl | assumption | (simp; done))
  | ((with_reducible apply if_d1); · first | assumption | omega)
  | ((with_reducible apply if_d0); · first | assumption | omega)
  | ((with_reducible apply if_n1); · first | assumption | omega)
  | ((with_reducible apply if_n0); · first | assumption | omega)
  | ((with_reducible apply w_txadd); · first | omega | (simp; omega) | (simp; done))
  | ((with_reducible apply w_jns); · first | omega | (simp; omega) | (simp; done))
  | ((with_reducible apply w_txlen); · first | omega | (simp; omega) | (simp; done))
  | ((with_reducible apply w_txslice); · first | omega | (simp; omega) | (simp; done))
  | ((with_reducible apply w_txsplit); (· decide); · first | omega | (simp; omega) | (simp; done))
  | ((with_reducible apply w_fmt); (· first | assumption | omega); · first | assumption | omega)
  | ((with_reducible apply w_strI); (· first | assumption | omega); · first | assumption | omega)))
open TL
theorem lc_goF {α : Type} {t : Tg} {tt : BT} {f : BE} {env : Ev} {gd : Store → Bool} {g : α → D} {ε : α → Ev} {φ : α → D} {p : α → Bool} (hg : ∀ S, gd S = true) : ∀ {ds : List α} {acc : List D} {S : Store}, (∀ d ∈ ds, ∀ S, asg S t (g d) env = some (ε d)) → (∀ d ∈ ds, tt (ε d) = pure (p d)) → (∀ d ∈ ds, p d = true → f (ε d) = pure (φ d)) → acc.length + ds.length ≤ 1000000 → compM gd t tt f env (ds.map g) acc S = .ok (acc ++ (ds.filter p).map φ) S
  | [], acc, S, _, _, _, _ => by
    rw [List.map_nil, compM, if_pos (hg S)]
    simp
  | d :: ds, acc, S, ha, ht, hf, hl => by
    rw [List.length_cons] at hl
    rw [List.map_cons, compM, if_pos (hg S), ha d (by simp) S]
    dsimp only
    rw [ht d (by simp)]
    dsimp only [pure_ap]
    cases hp : p d with
    | true =>
      rw [hf d (by simp) hp]
      dsimp only [pure_ap]
      rw [if_pos (by omega), lc_goF hg (fun x hx => ha x (List.mem_cons_of_mem _ hx)) (fun x hx => ht x (List.mem_cons_of_mem _ hx)) (fun x hx => hf x (List.mem_cons_of_mem _ hx)) (by simp; omega)]
      simp [hp]
    | false =>
      dsimp only
      rw [lc_goF hg (fun x hx => ha x (List.mem_cons_of_mem _ hx)) (fun x hx => ht x (List.mem_cons_of_mem _ hx)) (fun x hx => hf x (List.mem_cons_of_mem _ hx)) (by omega)]
      simp [hp]
/-- a comprehension with a test -/
theorem lc_if {α : Type} {t : Tg} {tt : BT} {f : BE} {env : Ev} {q : Its} {xs : List α} {g : α → D} (ε : α → Ev) (p : α → Bool) (φ : α → D) (hg : ∀ S, q.gd S = true) (hp : q.ds = xs.map g) (ha : ∀ d ∈ xs, ∀ S, asg S t (g d) env = some (ε d)) (ht : ∀ d ∈ xs, tt (ε d) = pure (p d)) (hf : ∀ d ∈ xs, p d = true → f (ε d) = pure (φ d)) (hl : xs.length ≤ 1000000) : runLc t tt f env q = pure ((xs.filter p).map φ) := by
  funext S
  unfold runLc
  rw [hp, lc_goF hg ha ht hf (by simpa using hl)]
  simp
theorem k_dig : D.str "0123456789" = txD dig := rfl
theorem k_e : D.str "" = txD [] := rfl
theorem chars_tx (w : List Nat) : charsD (tx w) = w.map fun c => .str ⟨#[c]⟩ := rfl
theorem ok_e : okD 64 (txD []) = true := okD_tx fun c hc => by cases hc
theorem m_number_in {w : List Nat} (hl : w.length ≤ 10000) : r_number_in [txD w] = pure (.int (numIn w)) := by
  refine W_eq fun S => ?_
  unfold r_number_in
  rw [W_fnT]
  unfold b_number_in
  rw [k_dig]
  show WS _ [some (txD w), none] S _ _ _
  have neg : ∀ {S' : Store}, ¬ isNum w → S' = S → (D.int (-1) = D.int (numIn w) ∧ List.take S.length S' = S) := fun h e => by
    unfold numIn
    rw [if_neg h, e]
    exact ⟨rfl, by simp⟩
  have hc : w.map (fun c => D.bool (decide (c ∈ dig))) = w.map fun c => D.bool ((fun c => decide (c ∈ dig)) c) := rfl
  trivial
  refine if_dec (fun h1 => ?_) fun h1 => ?_
  · trivial
    refine if_ndec (fun h2 => ?_) fun h2 => ?_
    · trivial
      refine w_eq (lc_of (xs := w) (g := fun c => .str ⟨#[c]⟩) (fun c => [some (txD w), some (.str ⟨#[c]⟩)]) (fun c => .bool (decide (c ∈ dig))) (fun _ => rfl) rfl (fun c _ S => rfl) (fun c hc => ?_) (by omega)) ?_
      · refine W_eq fun S => ?_
        trivial
        refine w_sign ?_
        exact ⟨by simp, rfl⟩
      trivial
      refine w_eq gAll_map ?_
      trivial
      cases hb : (w.all fun c => decide (c ∈ dig)) with
      | false =>
        trivial
        refine neg (fun z => ?_) rfl
        rw [List.all_eq_true.mpr fun c hc => decide_eq_true (z.2 c hc)] at hb
        cases hb
      | true =>
        have h : isNum w := ⟨by omega, fun c hc => of_decide_eq_true (List.all_eq_true.mp hb c hc)⟩
        trivial
        refine w_intS h ?_
        trivial
        unfold numIn
        rw [if_pos h]
        exact ⟨rfl, by simp⟩
    · trivial
      exact neg (fun z => h2 (by have := z.1.2; omega)) rfl
  · trivial
    exact neg (fun z => h1 (by have := z.1.1; omega)) rfl
theorem m_law_integer {w : List Nat} (hw : Pt w) (hl : w.length ≤ 10000) : r__law_integer [txD w] = pure (intgD w) := by
  have ok := okD_tx (n := 64) hw
  have ok0 := ok_e
  refine W_eq fun S => ?_
  unfold r__law_integer
  rw [W_fnT]
  unfold b__law_integer
  rw [k_dig, k_e]
  show WS _ [some (txD w), none] S _ _ _
  have neg : ∀ {S' : Store}, ¬ isNum w → S' = S → (D.none = intgD w ∧ List.take S.length S' = S) := fun h e => by
    unfold intgD intg
    rw [if_neg h, e]
    exact ⟨rfl, by simp⟩
  trivial
  rw [eqD_tx]
  refine if_dec (fun h1 => ?_) fun h1 => ?_
  · trivial
    refine neg (fun z => ?_) rfl
    rw [h1] at z
    exact absurd z.1.1 (by decide)
  trivial
  refine if_dec (fun h2 => ?_) fun h2 => ?_
  · trivial
    exact neg (fun z => by have := z.1.2; omega) rfl
  trivial
  refine w_eq (lc_if (xs := w) (g := fun c => .str ⟨#[c]⟩) (fun c => [some (txD w), some (.str ⟨#[c]⟩)]) (fun c => !decide (c ∈ dig)) (fun c => txD [c]) (fun _ => rfl) rfl (fun c _ S => rfl) (fun c hc => ?_) (fun c hc _ => ?_) (by omega)) ?_
  · refine W_eq fun S => ?_
    trivial
    refine w_sign ?_
    exact ⟨by simp, rfl⟩
  · refine W_eq fun S => ?_
    trivial
    exact ⟨rfl, rfl⟩
  have okl : okD 64 (.list ((w.filter fun c => !decide (c ∈ dig)).map fun c => txD [c])) = true := by
    rw [okD_list]
    refine okDs_of fun x hx => ?_
    obtain ⟨c, hc, rfl⟩ := List.mem_map.mp hx
    exact okD_tx fun d hd => by rw [List.mem_singleton.mp hd]; exact hw c (List.mem_filter.mp hc).1
  have okn : okD 64 (.list []) = true := by simp
  trivial
  have e : eqD (.list ((w.filter fun c => !decide (c ∈ dig)).map fun c => txD [c])) (.list []) = decide ((w.filter fun c => !decide (c ∈ dig)) = []) := by
    cases (w.filter fun c => !decide (c ∈ dig)) with
    | nil => rfl
    | cons c r => simp [eqD, eqDs]
  rw [e]
  have e2 : ((w.filter fun c => !decide (c ∈ dig)) = []) ↔ ∀ c ∈ w, c ∈ dig := by
    rw [List.filter_eq_nil_iff]
    simp
  by_cases hd : ∀ c ∈ w, c ∈ dig
  · have hn : isNum w := ⟨by
      have : w ≠ [] := h1
      have := List.length_pos_iff.mpr this
      omega, hd⟩
    rw [decide_eq_true (e2.mpr hd)]
    trivial
    refine w_intS hn ?_
    have := val_bd hn
    trivial
    have okv : okD 64 (txD (numT (val w))) = true := okD_tx (numT_free this.1 this.2).2.2.1
    trivial
    rw [eqD_tx]
    refine if_dec (fun h3 => ?_) fun h3 => ?_
    · trivial
      refine w_intS hn ?_
      trivial
      unfold intgD intg
      rw [if_pos hn, if_pos h3]
      exact ⟨rfl, by simp⟩
    · trivial
      unfold intgD intg
      rw [if_pos hn, if_neg h3]
      exact ⟨rfl, by simp⟩
  · rw [decide_eq_false (fun z => hd (e2.mp z))]
    trivial
    exact neg (fun z => hd z.2) rfl
end Z
end
section
set_option maxHeartbeats 4000000
namespace Z
open PySem PySem.Spec L2
local macro_rules | `(tactic| trivial) => `(tactic| repeat (first
  | with_reducible refine WSt.h ?_
  | ((with_reducible apply w_rd_c); · assumption)
  | ((with_reducible apply w_rd_ok); · assumption)
  | ((with_reducible apply w_new); · first | rfl | assumption | (simp; done))
  | ((with_reducible apply len_ok); · rfl)
  | ((with_reducible apply len_eq); · rfl)
  | ((with_reducible apply w_is_int_ok); · assumption)
  | ((with_reducible apply w_is_bool_ok); · assumption)
  | ((with_reducible apply w_is_str_ok); · assumption)
  | ((with_reducible apply w_is_list_ok); · assumption)
  | ((with_reducible apply w_is_tuple_ok); · assumption)
  | ((with_reducible apply w_addT); · first | omega | (simp; omega) | (simp; done))
  | ((with_reducible apply w_addL); · first | omega | (simp; omega) | (simp; done))
  | ((with_reducible apply w_addC); · first | omega | (simp; omega) | (simp; done))
  | ((with_reducible apply w_mul); (· (first | assumption | (refine sm_om ?_; omega))); · (first | assumption | (refine sm_om ?_; omega)))
  | ((with_reducible apply w_div); (· omega); · (first | assumption | (refine sm_om ?_; omega)))
  | ((with_reducible apply w_mod); · first | omega | assumption)
  | ((with_reducible apply w_eqd); (· first | assumption | (simp; done) | (simp [okDs_cons']; done)); · first | assumption | (simp; done) | (simp [okDs_cons']; done))
  | ((with_reducible apply w_ned); (· first | assumption | (simp; done) | (simp [okDs_cons']; done)); · first | assumption | (simp; done) | (simp [okDs_cons']; done))
  | ((with_reducible apply w_ixt); · first | exact at_0 | exact at_1 | exact at_2 | exact at_3 | assumption)
  | ((with_reducible apply w_ixl); · first | exact at_0 | exact at_1 | exact at_2 | exact at_3 | assumption)
  | ((with_reducible apply w_ixf); · first | exact at_0 | exact at_1 | exact at_2 | exact at_3 | assumption)
  | ((with_reducible apply w_rng); · first | omega | (simp; omega) | (simp; done))
  | ((with_reducible apply w_endT); · first | rfl | assumption | (simp; done))
  | ((with_reducible apply w_endL); · first | rfl | assumption | (simp; done))
  | ((with_reducible apply if_d1); · first | assumption | omega)
  | ((with_reducible apply if_d0); · first | assumption | omega)
  | ((with_reducible apply if_n1); · first | assumption | omega)
  | ((with_reducible apply if_n0); · first | assumption | omega)
  | ((with_reducible apply w_txadd); · first | omega | (simp; omega) | (simp; done))
  | ((with_reducible apply w_jns); · first | omega | (simp; omega) | (simp; done))
  | ((with_reducible apply w_txlen); · first | omega | (simp; omega) | (simp; done))
  | ((with_reducible apply w_txslice); · first | omega | (simp; omega) | (simp; done))
  | ((with_reducible apply w_txsplit); (· decide); · first | omega | (simp; omega) | (simp; done))
  | ((with_reducible apply w_fmt); (· first | assumption | omega); · first | assumption | omega)
  | ((with_reducible apply w_strI); (· first | assumption | omega); · first | assumption | omega)))
open TL
theorem at_lst {xs : List D} {x : D} : atI (xs ++ [x]) (-1) = some x := by
  unfold atI ixN
  rw [if_neg (by omega), if_pos (by simp; omega)]
  have : ((-1 : Int) + ((xs ++ [x]).length : Int)).toNat = xs.length := by simp; omega
  dsimp only [Option.bind_some]
  rw [this]
  simp
theorem at_lst' {x y : D} {xs : List D} : atI (y :: (xs ++ [x])) (-1) = some x := at_lst (xs := y :: xs)
theorem cut_mid {a b : D} {m : List D} : cutD (a :: (m ++ [b])) (some 1) (some (-1)) = m := by
  unfold cutD
  have e1 : HT.sIx (a :: (m ++ [b])).length 0 (some 1) = 1 := by
    show (if (1 : Int) < 0 then ((1 : Int) + ((a :: (m ++ [b])).length : Int)).toNat else min (1 : Int).toNat (a :: (m ++ [b])).length) = 1
    rw [if_neg (by omega)]
    simp
  have e2 : HT.sIx (a :: (m ++ [b])).length (a :: (m ++ [b])).length (some (-1)) = m.length + 1 := by
    show ((-1 : Int) + ((a :: (m ++ [b])).length : Int)).toNat = _
    simp
    omega
  rw [e1, e2]
  simp
theorem spl_mem_len {s : Nat} {x p : List Nat} (h : p ∈ spl [s] 0 [] x) : p.length ≤ x.length := by
  have h1 := (spl_count (s := s) x []).2
  have h2 : p.length ≤ ((spl [s] 0 [] x).map (·.length)).sum := by
    generalize spl [s] 0 [] x = l at h
    clear h1
    induction l with
    | nil => cases h
    | cons q l ih =>
      rw [List.map_cons, List.sum_cons]
      rcases List.mem_cons.mp h with rfl | h
      · omega
      · have := ih h
        omega
  simp at h1
  omega
theorem spl_len {s : Nat} (x : List Nat) : (spl [s] 0 [] x).length ≤ x.length + 1 := (spl_count (s := s) x []).1
theorem spl_pt {s : Nat} {x p : List Nat} (hx : Pt x) (h : p ∈ spl [s] 0 [] x) : Pt p := fun c hc => by
  rcases spl_sub x [] p h c hc with z | z
  · cases z
  · exact hx c z
theorem ok_tupI {n : Nat} (l : List Int) : okD (n + 1) (tupI l) = true := by
  unfold tupI
  rw [okD_tuple]
  refine okDs_of fun x hx => ?_
  obtain ⟨i, _, rfl⟩ := List.mem_map.mp hx
  rfl
theorem eqD_tupI0 (l : List Int) : eqD (tupI l) (.tuple []) = decide (l = []) := by
  cases l with
  | nil => rfl
  | cons a l => simp [tupI, eqD, eqDs]
theorem ok_fD {n : Nat} (a : Int) (m : List (List Int)) (b : Int) : okD (n + 3) (fD a m b) = true := by
  unfold fD
  rw [okD_tuple, okDs_cons, okDs_cons, okDs_cons, okD_tuple]
  have : okDs (n + 1) (m.map tupI) = true := okDs_of fun x hx => by
    obtain ⟨l, _, rfl⟩ := List.mem_map.mp hx
    exact ok_tupI l
  rw [this]
  rfl
theorem okD_hD {n : Nat} (h : Hl) : okD (n + 3) (hD h) = true := by
  rw [← fD_of]
  exact ok_fD _ _ _
theorem progF_short {ns : List (List Int)} (h : ns.length < 2) : progF ns = none := by
  match ns, h with
  | [], _ => rfl
  | [a], _ => cases a <;> rfl
  | _ :: _ :: _, h => exact absurd h (by simp)
theorem progF_ends {a b : List Int} {m : List (List Int)} : progF (a :: (m ++ [b])) = match a, b with
    | a0 :: _, b0 :: _ => some (a0, m, b0)
    | _, _ => none := by
  unfold progF
  have e : (a :: (m ++ [b])).getLast? = some b := by
    rw [← List.cons_append, List.getLast?_append]
    rfl
  have e2 : ((a :: (m ++ [b])).drop 1).dropLast = m := by
    show (m ++ [b]).dropLast = m
    rw [List.dropLast_concat]
  have e3 : 2 ≤ (a :: (m ++ [b])).length := by simp
  rw [e]
  match a, b with
  | [], _ => rfl
  | _ :: _, [] => rfl
  | a0 :: _, b0 :: _ =>
    show (if 2 ≤ _ then some (a0, _, b0) else none) = _
    rw [if_pos e3, e2]
def nums (p : List Nat) : List Int := ((spl [32] 0 [] p).drop 1).map numIn
theorem nums_rows (x : List Nat) : (spl [10] 0 [] x).map nums = numsP x := by
  unfold numsP rowsT
  rw [List.map_map]
  rfl
theorem W_mono' {α : Type} {m : M α} {S : Store} {P P' : α → Store → Prop} {E E' : Str → Store → Prop} (h : W m S P E) (k : ∀ a S', P a S' → P' a S') (k' : ∀ c S', E c S' → E' c S') : W m S P' E' := W_mono h k k'
theorem m_read_text {x : List Nat} (hx : Pt x) (hl : x.length ≤ 10000) {S : Store} : W (r_read_hall [txD x]) S (fun a S' => progRead x = some a ∧ S' = S) (fun c S' => progRead x = none ∧ c = "InvalidText" ∧ S' = S) := by
  have okx := okD_tx (n := 64) hx
  unfold r_read_hall
  rw [W_fnT]
  unfold b_read_hall
  rw [k_bl, k_nl]
  show WS _ [some (txD x), none, none, none, none] S _ _ _
  have inner : ∀ p ∈ spl [10] 0 [] x, (eCB (c1 gTuple) (aCons (eLc [4] (iSeq (eSl (eS1 gSplit (eVar 3) (eC (txD [32]))) (oSome (eC (.int 1))) oNone)) (.name 4) bYes (eCall 1 r_number_in (aCons (eVar 4) aNil))) aNil)) [some (txD x), none, none, some (txD p), none] = pure (tupI (nums p)) := fun p hp => by
    have pl := spl_mem_len hp
    have pc := spl_len (s := 32) p
    refine W_eq fun S => ?_
    trivial
    rw [cut1, ← List.map_drop]
    refine w_eq (lc_of (xs := (spl [32] 0 [] p).drop 1) (g := txD) (fun w => [some (txD x), none, none, some (txD p), some (txD w)]) (fun w => .int (numIn w)) (fun _ => rfl) rfl (fun w _ S => rfl) (fun w hw => ?_) (by rw [List.length_drop]; omega)) ?_
    · have wl := spl_mem_len (List.mem_of_mem_drop hw)
      refine W_eq fun S => ?_
      trivial
      exact w_eq (m_number_in (by omega)) ⟨rfl, rfl⟩
    trivial
    unfold tupI nums
    rw [List.map_map]
    exact ⟨rfl, rfl⟩
  have xc := spl_len (s := 10) x
  trivial
  refine w_eq (lc_of (xs := spl [10] 0 [] x) (g := txD) (fun p => [some (txD x), none, none, some (txD p), none]) (fun p => tupI (nums p)) (fun _ => rfl) rfl (fun p _ S => rfl) inner (by omega)) ?_
  have en : (spl [10] 0 [] x).map (fun p => tupI (nums p)) = (numsP x).map tupI := by
    rw [← nums_rows, List.map_map]
    rfl
  rw [en]
  have raise : ∀ {S' : Store}, progRead x = none → S' = S → progRead x = none ∧ ("InvalidText" : Str) = "InvalidText" ∧ S' = S := fun h e => ⟨h, rfl, e⟩
  have hp : progRead x = match progF (numsP x) with
    | none => none
    | some (a, m, b) => if isHall (fD a m b) = true ∧ textL a m b = x then some (fD a m b) else none := rfl
  generalize numsP x = ns at hp ⊢
  trivial
  rw [List.length_map]
  refine if_dec (fun h1 => ?_) fun h1 => ?_
  · trivial
    rw [progF_short (by omega)] at hp
    exact ⟨hp, rfl, rfl⟩
  obtain ⟨a, m, b, rfl⟩ := ends_of (l := ns) (by omega)
  rw [progF_ends] at hp
  rw [List.map_cons, List.map_append, List.map_cons, List.map_nil]
  have oka := ok_tupI (n := 63) a
  have okb := ok_tupI (n := 63) b
  have ok0 : okD 64 (.tuple []) = true := by rw [okD_tuple]; rfl
  trivial
  rw [eqD_tupI0]
  match a, oka, hp with
  | [], _, hp =>
    trivial
    exact ⟨hp, rfl, rfl⟩
  | a0 :: ar, oka, hp =>
  rw [decide_eq_false (by simp)]
  trivial
  refine w_ixl at_lst' ?_
  trivial
  rw [eqD_tupI0]
  match b, okb, hp with
  | [], _, hp =>
    trivial
    exact ⟨hp, rfl, rfl⟩
  | b0 :: br, okb, hp =>
  rw [decide_eq_false (by simp)]
  have hp : progRead x = if isHall (fD a0 m b0) = true ∧ textL a0 m b0 = x then some (fD a0 m b0) else none := hp
  have ea : tupI (a0 :: ar) = .tuple (.int a0 :: ar.map .int) := rfl
  have eb : tupI (b0 :: br) = .tuple (.int b0 :: br.map .int) := rfl
  rw [ea, eb]
  trivial
  rw [cut_mid]
  refine w_ixl at_lst' ?_
  trivial
  have okf := ok_fD (n := 61) a0 m b0
  have ef : fD a0 m b0 = .tuple [.int a0, .tuple (m.map tupI), .int b0] := rfl
  rw [← ef]
  refine w_eq (m_is_hall (n := 61) okf) ?_
  trivial
  cases hh : isHall (fD a0 m b0) with
  | false =>
    trivial
    rw [hh, if_neg (by simp)] at hp
    exact ⟨hp, rfl, rfl⟩
  | true =>
    rw [hh] at hp
    obtain ⟨h, e, H⟩ := hall_hl hh
    obtain ⟨e1, e2, e3⟩ := fD_hD e
    subst e1 e2 e3
    rw [text_of] at hp
    rw [fD_of] at hp ⊢
    trivial
    refine w_eq (m_as_text H) ?_
    have okt := okD_tx (n := 64) (TT_pt H)
    trivial
    rw [eqD_tx]
    refine if_ndec (fun h2 => ?_) fun h2 => ?_
    · trivial
      have := ok_fix (okD_hD (n := 1) h)
      rw [hD_eq] at this ⊢
      trivial
      rw [if_pos ⟨rfl, h2⟩] at hp
      exact ⟨hp, by simp⟩
    · trivial
      rw [if_neg fun z => h2 z.2] at hp
      exact ⟨hp, rfl, rfl⟩
theorem m_read_ok {x : List Nat} (hx : Pt x) (hl : x.length ≤ 10000) {d : D} (h : progRead x = some d) : r_read_hall [txD x] = pure d :=
  W_eq fun S => by
    refine W_mono' (m_read_text hx hl) (fun a S' ⟨h1, h2⟩ => ⟨?_, h2⟩) fun c S' ⟨h1, _⟩ => ?_
    · rw [h] at h1
      cases h1
      rfl
    · rw [h] at h1
      cases h1
theorem m_read_no {x : List Nat} (hx : Pt x) (hl : x.length ≤ 10000) (h : progRead x = none) : r_read_hall [txD x] = raise "InvalidText" :=
  W_eqE fun S => by
    refine W_mono' (m_read_text hx hl) (fun a S' ⟨h1, h2⟩ => ?_) fun c S' ⟨_, h2⟩ => h2
    rw [h] at h1
    cases h1
end Z
end
section
set_option maxHeartbeats 4000000
namespace Z
open PySem PySem.Spec L2
local macro_rules | `(tactic| trivial) => `(tactic| repeat (first
  | with_reducible refine WSt.h ?_
  | ((with_reducible apply w_rd_c); · assumption)
  | ((with_reducible apply w_rd_ok); · assumption)
  | ((with_reducible apply w_new); · first | rfl | assumption | (simp; done))
  | ((with_reducible apply len_ok); · rfl)
  | ((with_reducible apply len_eq); · rfl)
  | ((with_reducible apply w_is_int_ok); · assumption)
  | ((with_reducible apply w_is_bool_ok); · assumption)
  | ((with_reducible apply w_is_str_ok); · assumption)
  | ((with_reducible apply w_is_list_ok); · assumption)
  | ((with_reducible apply w_is_tuple_ok); · assumption)
  | ((with_reducible apply w_addT); · first | omega | (simp; omega) | (simp; done))
  | ((with_reducible apply w_addL); · first | omega | (simp; omega) | (simp; done))
  | ((with_reducible apply w_addC); · first | omega | (simp; omega) | (simp; done))
  | ((with_reducible apply w_mul); (· (first | assumption | (refine sm_om ?_; omega))); · (first | assumption | (refine sm_om ?_; omega)))
  | ((with_reducible apply w_div); (· omega); · (first | assumption | (refine sm_om ?_; omega)))
  | ((with_reducible apply w_mod); · first | omega | assumption)
  | ((with_reducible apply w_eqd); (· first | assumption | (simp; done) | (simp [okDs_cons']; done)); · first | assumption | (simp; done) | (simp [okDs_cons']; done))
  | ((with_reducible apply w_ned); (· first | assumption | (simp; done) | (simp [okDs_cons']; done)); · first | assumption | (simp; done) | (simp [okDs_cons']; done))
  | ((with_reducible apply w_ixt); · first | exact at_0 | exact at_1 | exact at_2 | exact at_3 | assumption)
  | ((with_reducible apply w_ixl); · first | exact at_0 | exact at_1 | exact at_2 | exact at_3 | assumption)
  | ((with_reducible apply w_ixf); · first | exact at_0 | exact at_1 | exact at_2 | exact at_3 | assumption)
  | ((with_reducible apply w_rng); · first | omega | (simp; omega) | (simp; done))
  | ((with_reducible apply w_endT); · first | rfl | assumption | (simp; done))
  | ((with_reducible apply w_endL); · first | rfl | assumption | (simp; done))
  | ((with_reducible apply if_d1); · first | assumption | omega)
  | ((with_reducible apply if_d0); · first | assumption | omega)
  | ((with_reducible apply if_n1); · first | assumption | omega)
  | ((with_reducible apply if_n0); · first | assumption | omega)
  | ((with_reducible apply w_txadd); · first | omega | (simp; omega) | (simp; done))
  | ((with_reducible apply w_jns); · first | omega | (simp; omega) | (simp; done))
  | ((with_reducible apply w_txlen); · first | omega | (simp; omega) | (simp; done))
  | ((with_reducible apply w_txslice); · first | omega | (simp; omega) | (simp; done))
  | ((with_reducible apply w_txsplit); (· decide); · first | omega | (simp; omega) | (simp; done))
  | ((with_reducible apply w_fmt); (· first | assumption | omega); · first | assumption | omega)
  | ((with_reducible apply w_strI); (· first | assumption | omega); · first | assumption | omega)))
open TL
theorem k_high4 : D.str "high" = txD wHigh := rfl
theorem k_wall4 : D.str "wall" = txD wWall := rfl
theorem k_end3 : D.str "end" = txD wEnd := rfl
def partR (r : List (List Nat)) : List D := (r.drop 1).map intgD
theorem ok_intgD {n : Nat} (w : List Nat) : okD n (intgD w) = true := by
  unfold intgD
  split <;> (cases n <;> rfl)
theorem ok_part {n : Nat} (r : List (List Nat)) : okDs n (partR r) = true := okDs_of fun x hx => by
  obtain ⟨w, _, rfl⟩ := List.mem_map.mp hx
  exact ok_intgD w
theorem rep_walls (k : Nat) : (List.replicate k [txD wWall]).flatten = (List.replicate k wWall).map txD := by
  induction k with
  | zero => rfl
  | succ k ih => rw [List.replicate_succ, List.replicate_succ, List.flatten_cons, ih]; rfl
theorem headD_at {r : List (List Nat)} (h : r ≠ []) : atI (r.map txD) 0 = some (txD (headW r)) := by
  cases r with
  | nil => exact absurd rfl h
  | cons w r => exact at_0
theorem w_repL {xs : List D} {k : Int} {S : Store} {P : D → Store → Prop} {E : Str → Store → Prop} (h1 : -1000 ≤ k) (h2 : k ≤ 1000) (H : P (.list (List.replicate k.toNat xs).flatten) S) (h3 : xs.length ≤ 1000 := by simp) : W (gRep (.list xs) (.int k)) S P E := by
  unfold gRep
  dsimp only
  rw [if_pos ⟨h1, h2, h3⟩]
  exact H
theorem m_law_read {x : List Nat} (hx : Pt x) (hl : x.length ≤ 900) : r__law_read [txD x] = pure ((lawRead x).getD .none) := by
  refine W_eq fun S => ?_
  unfold r__law_read
  rw [W_fnT]
  unfold b__law_read
  rw [k_bl, k_nl, k_high4, k_wall4, k_end3]
  show WS _ [some (txD x), none, none, none, none, none, none] S _ _ _
  have xc := spl_len (s := 10) x
  have rl : (rowsT x).length = (spl [10] 0 [] x).length := by unfold rowsT; rw [List.length_map]
  have ne := (rows_ne x).2
  have rpt : ∀ r ∈ rowsT x, (∀ w ∈ r, Pt w ∧ w.length ≤ 900) ∧ r.length ≤ 901 := fun r hr => by
    obtain ⟨p, hp, rfl⟩ := List.mem_map.mp hr
    have pp := spl_pt hx hp
    have pl := spl_mem_len hp
    have := spl_len (s := 32) p
    exact ⟨fun w hw => ⟨spl_pt pp hw, by have := spl_mem_len hw; omega⟩, by omega⟩
  trivial
  refine w_eq (lc_of (xs := spl [10] 0 [] x) (g := txD) (fun p => [some (txD x), none, none, none, none, some (txD p), none]) (fun p => .list ((spl [32] 0 [] p).map txD)) (fun _ => rfl) rfl (fun p _ S => rfl) (fun p hp => ?_) (by omega)) ?_
  · have pl := spl_mem_len hp
    refine W_eq fun S => ?_
    trivial
    exact ⟨rfl, rfl⟩
  have en : (spl [10] 0 [] x).map (fun p => D.list ((spl [32] 0 [] p).map txD)) = (rowsT x).map fun r => .list (r.map txD) := by
    unfold rowsT
    rw [List.map_map]
    rfl
  rw [en]
  have hp : lawRead x = if 2 ≤ (rowsT x).length ∧ (rowsT x).map headW = labels (rowsT x).length then
    match lawF ((rowsT x).map partR) with
    | none => none
    | some f => if isHall f = true then some f else none
  else none := rfl
  generalize rowsT x = rs at hp ne rpt rl ⊢
  have none' : ∀ {S' : Store}, lawRead x = none → S' = S → (D.none = (lawRead x).getD .none ∧ List.take S.length S' = S) := fun h e => by
    rw [h, e]
    exact ⟨rfl, by simp⟩
  trivial
  refine w_repL (by rw [List.length_map]; omega) (by rw [List.length_map]; omega) ?_
  rw [rep_walls, List.length_map]
  have lk : (((rs.length : Int) - 2).toNat : Nat) = rs.length - 2 := by omega
  rw [lk]
  have lr : rs.length ≤ 901 := by omega
  trivial
  have el : [txD wHigh] ++ (List.replicate (rs.length - 2) wWall).map txD ++ [txD wEnd] = (labels rs.length).map txD := by
    unfold labels
    rw [List.map_cons, List.map_append]
    rfl
  rw [el]
  trivial
  rw [List.length_map]
  refine if_dec (fun h1 => ?_) fun h1 => ?_
  · trivial
    rw [if_neg (by omega)] at hp
    exact none' hp rfl
  trivial
  refine w_eq (lc_of (xs := rs) (g := fun r => .list (r.map txD)) (fun r => [some (txD x), some (.list (rs.map fun r => .list (r.map txD))), some (.list ((labels rs.length).map txD)), none, none, some (.list (r.map txD)), none]) (fun r => txD (headW r)) (fun _ => rfl) rfl (fun r _ S => rfl) (fun r hr => ?_) (by omega)) ?_
  · refine W_eq fun S => ?_
    trivial
    exact w_ixl (headD_at (ne r hr)) ⟨rfl, rfl⟩
  have eh : rs.map (fun r => txD (headW r)) = (rs.map headW).map txD := by rw [List.map_map]; rfl
  rw [eh]
  have okh : okD 64 (.list ((rs.map headW).map txD)) = true := by
    rw [okD_list]
    refine okDs_of fun y hy => ?_
    obtain ⟨w, hw, rfl⟩ := List.mem_map.mp hy
    obtain ⟨r, hr, rfl⟩ := List.mem_map.mp hw
    have := ne r hr
    match r, this, hr with
    | w :: r, _, hr => exact okD_tx ((rpt _ hr).1 w (by simp)).1
  have okl : okD 64 (.list ((labels rs.length).map txD)) = true := by
    rw [okD_list]
    refine okDs_of fun y hy => ?_
    obtain ⟨w, hw, rfl⟩ := List.mem_map.mp hy
    have k1 : Pt wHigh := by unfold Pt; decide
    have k2 : Pt wWall := by unfold Pt; decide
    have k3 : Pt wEnd := by unfold Pt; decide
    refine okD_tx ?_
    unfold labels at hw
    rcases List.mem_cons.mp hw with rfl | hw
    · exact k1
    · rcases List.mem_append.mp hw with hw | hw
      · rw [(List.mem_replicate.mp hw).2]; exact k2
      · rw [List.mem_singleton.mp hw]; exact k3
  trivial
  have ed : eqD (.list ((rs.map headW).map txD)) (.list ((labels rs.length).map txD)) = decide (rs.map headW = labels rs.length) := eqDs_tx
  rw [ed]
  refine if_ndec (fun h2 => ?_) fun h2 => ?_
  rotate_left
  · trivial
    rw [if_neg fun z => h2 z.2] at hp
    exact none' hp rfl
  rw [if_pos ⟨by omega, h2⟩] at hp
  trivial
  refine w_eq (lc_of (xs := rs) (g := fun r => .list (r.map txD)) (fun r => [some (txD x), some (.list (rs.map fun r => .list (r.map txD))), some (.list ((labels rs.length).map txD)), none, none, some (.list (r.map txD)), none]) (fun r => .tuple (partR r)) (fun _ => rfl) rfl (fun r _ S => rfl) (fun r hr => ?_) (by omega)) ?_
  · obtain ⟨q1, q2⟩ := rpt r hr
    refine W_eq fun S => ?_
    trivial
    rw [cut1, ← List.map_drop]
    refine w_eq (lc_of (xs := r.drop 1) (g := txD) (fun w => [some (txD x), some (.list (rs.map fun r => .list (r.map txD))), some (.list ((labels rs.length).map txD)), none, none, some (.list (r.map txD)), some (txD w)]) intgD (fun _ => rfl) rfl (fun w _ S => rfl) (fun w hw => ?_) (by rw [List.length_drop]; omega)) ?_
    · obtain ⟨q3, q4⟩ := q1 w (List.mem_of_mem_drop hw)
      refine W_eq fun S => ?_
      trivial
      exact w_eq (m_law_integer q3 (by omega)) ⟨rfl, rfl⟩
    trivial
    exact ⟨rfl, rfl⟩
  have ep : rs.map (fun r => D.tuple (partR r)) = (rs.map partR).map .tuple := by rw [List.map_map]; rfl
  rw [ep]
  have okp : ∀ q ∈ rs.map partR, ∀ n, okDs n q = true := fun q hq n => by
    obtain ⟨r, _, rfl⟩ := List.mem_map.mp hq
    exact ok_part r
  have lp : (rs.map partR).length = rs.length := List.length_map ..
  generalize rs.map partR = qs at hp okp lp ⊢
  obtain ⟨a, m, b, rfl⟩ := ends_of (l := qs) (by omega)
  rw [lawF_ends] at hp
  rw [List.map_cons, List.map_append, List.map_cons, List.map_nil]
  trivial
  match a, hp, okp with
  | [], hp, _ =>
    refine if_ndec (fun h => absurd h (by simp)) fun _ => ?_
    trivial
    exact none' hp rfl
  | _ :: _ :: _, hp, _ =>
    refine if_ndec (fun h => absurd h (by simp; omega)) fun _ => ?_
    trivial
    exact none' hp rfl
  | [x0], hp, okp =>
  refine if_ndec (fun _ => ?_) fun h => absurd rfl h
  trivial
  refine w_ixl at_lst' ?_
  trivial
  match b, hp, okp with
  | [], hp, _ =>
    refine if_ndec (fun h => absurd h (by simp)) fun _ => ?_
    trivial
    exact none' hp rfl
  | _ :: _ :: _, hp, _ =>
    refine if_ndec (fun h => absurd h (by simp; omega)) fun _ => ?_
    trivial
    exact none' hp rfl
  | [y0], hp, okp =>
  refine if_ndec (fun _ => ?_) fun h => absurd rfl h
  have hp : lawRead x = if isHall (D.tuple [x0, D.tuple (List.map D.tuple m), y0]) = true then some (D.tuple [x0, D.tuple (List.map D.tuple m), y0]) else none := hp
  have okf : okD 64 (D.tuple [x0, D.tuple (List.map D.tuple m), y0]) = true := by
    have k1 := okDs_mem (okp [x0] (by simp) 63) x0 (by simp)
    have k2 := okDs_mem (okp [y0] (by simp) 63) y0 (by simp)
    have k3 : okDs 62 (m.map D.tuple) = true := okDs_of fun q hq => by
      obtain ⟨r, hr, rfl⟩ := List.mem_map.mp hq
      rw [okD_tuple]
      exact okp r (by simp [hr]) 61
    rw [okD_tuple, okDs_cons, okDs_cons, okDs_cons, okD_tuple, k1, k2, k3]
    rfl
  trivial
  rw [cut_mid]
  refine w_ixl at_lst' ?_
  trivial
  refine w_eq (m_is_hall (n := 61) okf) ?_
  trivial
  cases hh : isHall (D.tuple [x0, D.tuple (List.map D.tuple m), y0]) with
  | false =>
    trivial
    rw [hh, if_neg (by simp)] at hp
    exact none' hp rfl
  | true =>
    rw [hh, if_pos rfl] at hp
    have fx := ok_fix okf
    trivial
    rw [hp]
    exact ⟨rfl, by simp⟩
end Z
end
section
set_option maxHeartbeats 4000000
namespace Z
open PySem PySem.Spec L2
local macro_rules | `(tactic| trivial) => `(tactic| repeat (first
  | with_reducible refine WSt.h ?_
  | ((with_reducible apply w_rd_c); · assumption)
  | ((with_reducible apply w_rd_ok); · assumption)
  | ((with_reducible apply w_new); · first | rfl | assumption | (simp; done))
  | ((with_reducible apply len_ok); · rfl)
  | ((with_reducible apply len_eq); · rfl)
  | ((with_reducible apply w_is_int_ok); · assumption)
  | ((with_reducible apply w_is_bool_ok); · assumption)
  | ((with_reducible apply w_is_str_ok); · assumption)
  | ((with_reducible apply w_is_list_ok); · assumption)
  | ((with_reducible apply w_is_tuple_ok); · assumption)
  | ((with_reducible apply w_addT); · first | omega | (simp; omega) | (simp; done))
  | ((with_reducible apply w_addL); · first | omega | (simp; omega) | (simp; done))
  | ((with_reducible apply w_addC); · first | omega | (simp; omega) | (simp; done))
  | ((with_reducible apply w_mul); (· (first | assumption | (refine sm_om ?_; omega))); · (first | assumption | (refine sm_om ?_; omega)))
  | ((with_reducible apply w_div); (· omega); · (first | assumption | (refine sm_om ?_; omega)))
  | ((with_reducible apply w_mod); · first | omega | assumption)
  | ((with_reducible apply w_eqd); (· first | assumption | (simp; done) | (simp [okDs_cons']; done)); · first | assumption | (simp; done) | (simp [okDs_cons']; done))
  | ((with_reducible apply w_ned); (· first | assumption | (simp; done) | (simp [okDs_cons']; done)); · first | assumption | (simp; done) | (simp [okDs_cons']; done))
  | ((with_reducible apply w_ixt); · first | exact at_0 | exact at_1 | exact at_2 | exact at_3 | assumption)
  | ((with_reducible apply w_ixl); · first | exact at_0 | exact at_1 | exact at_2 | exact at_3 | assumption)
  | ((with_reducible apply w_ixf); · first | exact at_0 | exact at_1 | exact at_2 | exact at_3 | assumption)
  | ((with_reducible apply w_rng); · first | omega | (simp; omega) | (simp; done))
  | ((with_reducible apply w_endT); · first | rfl | assumption | (simp; done))
  | ((with_reducible apply w_endL); · first | rfl | assumption | (simp; done))
  | ((with_reducible apply if_d1); · first | assumption | omega)
  | ((with_reducible apply if_d0); · first | assumption | omega)
  | ((with_reducible apply if_n1); · first | assumption | omega)
  | ((with_reducible apply if_n0); · first | assumption | omega)
  | ((with_reducible apply w_txadd); · first | omega | (simp; omega) | (simp; done))
  | ((with_reducible apply w_jns); · first | omega | (simp; omega) | (simp; done))
  | ((with_reducible apply w_txlen); · first | omega | (simp; omega) | (simp; done))
  | ((with_reducible apply w_txslice); · first | omega | (simp; omega) | (simp; done))
  | ((with_reducible apply w_txsplit); (· decide); · first | omega | (simp; omega) | (simp; done))
  | ((with_reducible apply w_fmt); (· first | assumption | omega); · first | assumption | omega)
  | ((with_reducible apply w_strI); (· first | assumption | omega); · first | assumption | omega)))
open TL
def ltB1 : BS := (sSeq (sExpr (eApp (eVar 4) (e2 (g2 gAdd) (eC (.str "wall ")) (eS1 (fun a b => rd b >>= gJoin a) (eC (.str " ")) (eLc [6] (iSeq (eVar 5)) (.name 6) bYes (eCB (c1 gStrI) (aCons (eVar 6) aNil))))))) sNil)
theorem lt_b (i : Nat) : b__law_text i = (sSeq (sAsg (.tup [(.name 1), (.name 2), (.name 3)]) (eVar 0)) (sSeq (sSet 4 (eCel (aCons (e2 (g2 gAdd) (eC (.str "high ")) (eCB (c1 gStrI) (aCons (eVar 1) aNil))) aNil))) (sSeq (sFor (iSeq (eVar 2)) (.name 5) ltB1) (sSeq (sRet (eS1 (fun a b => rd b >>= gJoin a) (eC (.str "\n")) (e2 (g2 gAdd) (eVar 4) (eLst (aCons (e2 (g2 gAdd) (eC (.str "end ")) (eCB (c1 gStrI) (aCons (eVar 3) aNil))) aNil))))) sNil)))) := rfl
def lineD (p : List (List Nat)) : D := txD (joinL [32] p)
def linesTo (h : Hl) (i : Nat) : List D := ([wHigh, numT h.hh] :: (h.wl.take i).map wallR).map lineD
theorem linesTo_succ {h : Hl} {i : Nat} {w : Int × Int × Int} (e : h.wl[i]? = some w) : linesTo h (i + 1) = linesTo h i ++ [lineD (wallR w)] := by
  unfold linesTo
  rw [List.take_add_one, e, List.map_append, ← List.cons_append, List.map_append]
  rfl
theorem m_law_text {h : Hl} (H : HOk h) : r__law_text [hD h] = pure (txD (TT h)) := by
  obtain ⟨b1, b2, b3⟩ := H.bd
  obtain ⟨b1, b1'⟩ := b1
  obtain ⟨b2, b2'⟩ := b2
  have w3 := H.wl3
  have n1 := (numT_free b1 b1').2.2.2.1
  have n2 := (numT_free b2 b2').2.2.2.1
  refine W_eq fun S => ?_
  unfold r__law_text
  rw [W_fnT, lt_b]
  rw [k_high, k_end, k_nl]
  show WS _ [some (hD h), none, none, none, none, none, none] S _ _ _
  rw [hD_eq]
  trivial
  refine WSF_inv (fun i env S' => ∃ x y, env = [some (D.tuple [.int h.hh, .tuple (h.wl.map wD), .int h.e]), some (.int h.hh), some (.tuple (h.wl.map wD)), some (.int h.e), some (.cell S.length), x, y] ∧ S' = S ++ [.lst (linesTo h i)]) (fun _ => rfl) _ 0 _ _ (fun i d env S' hd hi => ?_) ⟨_, _, rfl, rfl⟩ fun env S' hi => ?_
  · obtain ⟨x, y, rfl, rfl⟩ := hi
    rw [Nat.zero_add]
    rw [List.getElem?_map] at hd
    obtain ⟨w, hw, rfl⟩ := Option.map_eq_some_iff.mp hd
    obtain ⟨⟨c1, c1'⟩, ⟨c2, c2'⟩, c3, c3'⟩ := b3 w (List.mem_of_getElem? hw)
    have m1 := (numT_free c1 c1').2.2.2.1
    have m2 := (numT_free c2 c2').2.2.2.1
    have m3 := (numT_free c3 c3').2.2.2.1
    have il : (linesTo h i).length < 1000000 := by
      unfold linesTo
      simp
      omega
    refine ⟨_, rfl, ?_⟩
    unfold ltB1
    rw [k_wall, k_bl]
    have e : wD w = .tuple ([w.1, w.2.1, w.2.2].map D.int) := rfl
    rw [e]
    trivial
    refine w_eq (lc_of (xs := [w.1, w.2.1, w.2.2]) (g := .int) (fun n => [some (D.tuple [.int h.hh, .tuple (h.wl.map wD), .int h.e]), some (.int h.hh), some (.tuple (h.wl.map wD)), some (.int h.e), some (.cell S.length), some (.tuple ([w.1, w.2.1, w.2.2].map D.int)), some (.int n)]) (fun n => txD (numT n)) (fun _ => rfl) rfl (fun n _ S => rfl) (fun n hn => ?_) (by simp)) ?_
    · have hb : 0 ≤ n ∧ n ≤ 99 := by
        simp only [List.mem_cons, List.not_mem_nil, or_false] at hn
        rcases hn with rfl | rfl | rfl
        · exact ⟨c1, c1'⟩
        · exact ⟨c2, c2'⟩
        · exact ⟨c3, c3'⟩
      obtain ⟨hb1, hb2⟩ := hb
      refine W_eq fun S => ?_
      trivial
      exact ⟨rfl, rfl⟩
    have e2 : [w.1, w.2.1, w.2.2].map (fun n => txD (numT n)) = [numT w.1, numT w.2.1, numT w.2.2].map txD := rfl
    rw [e2]
    trivial
    refine w_txjoin (s := 32) (by simp; omega) ?_
    have jl := join_len (s := 32) [numT w.1, numT w.2.1, numT w.2.2]
    have jl : (joinL [32] [numT w.1, numT w.2.1, numT w.2.2]).length ≤ 100 := by
      simp at jl
      omega
    trivial
    refine w_push (ds := linesTo h i) (by simp) rfl il ?_
    trivial
    refine ⟨_, _, rfl, ?_⟩
    rw [linesTo_succ hw]
    rw [List.set_append_right _ _ (Nat.le_refl _), Nat.sub_self]
    rfl
  · obtain ⟨x, y, rfl, rfl⟩ := hi
    have hc : (S ++ [.lst (linesTo h (0 + (h.wl.map wD).length))])[S.length]? = some (.lst (linesTo h (0 + (h.wl.map wD).length))) := by simp
    have il : (linesTo h (0 + (h.wl.map wD).length)).length ≤ 10 := by
      unfold linesTo
      simp
      omega
    trivial
    have e : linesTo h (0 + (h.wl.map wD).length) ++ [D.str (tx ([101, 110, 100, 32] ++ numT h.e))] = ((linesH h).map (joinL [32])).map txD := by
      unfold linesTo linesH
      rw [Nat.zero_add, List.length_map, List.take_length, List.map_map, ← List.cons_append, List.map_append]
      rfl
    refine w_addL (by rw [List.length_singleton]; omega) ?_
    rw [e]
    trivial
    refine w_txjoin (s := 10) ?_ ?_
    · have := lines_len H
      have := linesH_len H
      rw [List.length_map]
      omega
    · trivial
      exact ⟨rfl, by simp⟩
theorem m_hall_text {h : Hl} (H : HOk h) (hi : isHall (hD h) = true) : r_hall_text [hD h] = pure (txD (TT h)) := by
  refine W_eq fun S => ?_
  unfold r_hall_text
  rw [W_fnT]
  unfold b_hall_text
  show WS _ [some (hD h)] S _ _ _
  trivial
  refine w_eq ((m_need_hall (n := 1) (v := hD h) (okD_hD h)).trans (if_pos hi)) ?_
  trivial
  refine w_eq (m_as_text H) ?_
  trivial
  exact ⟨rfl, by simp⟩
theorem m_hall_text_no {v : D} (hv : okD 60 v = true) (hi : isHall v = false) : r_hall_text [v] = raise "InvalidHall" := by
  refine W_eqE fun S => ?_
  unfold r_hall_text
  rw [W_fnT]
  unfold b_hall_text
  show WS _ [some v] S _ _ _
  trivial
  rw [m_need_hall (n := 57) hv, hi]
  exact ⟨rfl, rfl⟩
end Z
end
section
set_option maxHeartbeats 4000000
namespace Z
open PySem PySem.Spec L2
local macro_rules | `(tactic| trivial) => `(tactic| repeat (first
  | with_reducible refine WSt.h ?_
  | ((with_reducible apply w_rd_c); · assumption)
  | ((with_reducible apply w_rd_ok); · assumption)
  | ((with_reducible apply w_new); · first | rfl | assumption | (simp; done))
  | ((with_reducible apply len_ok); · rfl)
  | ((with_reducible apply len_eq); · rfl)
  | ((with_reducible apply w_is_int_ok); · assumption)
  | ((with_reducible apply w_is_bool_ok); · assumption)
  | ((with_reducible apply w_is_str_ok); · assumption)
  | ((with_reducible apply w_is_list_ok); · assumption)
  | ((with_reducible apply w_is_tuple_ok); · assumption)
  | ((with_reducible apply w_addT); · first | omega | (simp; omega) | (simp; done))
  | ((with_reducible apply w_addL); · first | omega | (simp; omega) | (simp; done))
  | ((with_reducible apply w_addC); · first | omega | (simp; omega) | (simp; done))
  | ((with_reducible apply w_mul); (· (first | assumption | (refine sm_om ?_; omega))); · (first | assumption | (refine sm_om ?_; omega)))
  | ((with_reducible apply w_div); (· omega); · (first | assumption | (refine sm_om ?_; omega)))
  | ((with_reducible apply w_mod); · first | omega | assumption)
  | ((with_reducible apply w_eqd); (· first | assumption | (simp; done) | (simp [okDs_cons']; done)); · first | assumption | (simp; done) | (simp [okDs_cons']; done))
  | ((with_reducible apply w_ned); (· first | assumption | (simp; done) | (simp [okDs_cons']; done)); · first | assumption | (simp; done) | (simp [okDs_cons']; done))
  | ((with_reducible apply w_ixt); · first | exact at_0 | exact at_1 | exact at_2 | exact at_3 | assumption)
  | ((with_reducible apply w_ixl); · first | exact at_0 | exact at_1 | exact at_2 | exact at_3 | assumption)
  | ((with_reducible apply w_ixf); · first | exact at_0 | exact at_1 | exact at_2 | exact at_3 | assumption)
  | ((with_reducible apply w_rng); · first | omega | (simp; omega) | (simp; done))
  | ((with_reducible apply w_endT); · first | rfl | assumption | (simp; done))
  | ((with_reducible apply w_endL); · first | rfl | assumption | (simp; done))
  | ((with_reducible apply if_d1); · first | assumption | omega)
  | ((with_reducible apply if_d0); · first | assumption | omega)
  | ((with_reducible apply if_n1); · first | assumption | omega)
  | ((with_reducible apply if_n0); · first | assumption | omega)
  | ((with_reducible apply w_txadd); · first | omega | (simp; omega) | (simp; done))
  | ((with_reducible apply w_jns); · first | omega | (simp; omega) | (simp; done))
  | ((with_reducible apply w_txlen); · first | omega | (simp; omega) | (simp; done))
  | ((with_reducible apply w_txslice); · first | omega | (simp; omega) | (simp; done))
  | ((with_reducible apply w_txsplit); (· decide); · first | omega | (simp; omega) | (simp; done))
  | ((with_reducible apply w_fmt); (· first | assumption | omega); · first | assumption | omega)
  | ((with_reducible apply w_strI); (· first | assumption | omega); · first | assumption | omega)))
open TL
def Okt (y : List Nat) : Prop := Pt y ∧ y.length ≤ 900
theorem cut_tx (l : List Nat) (a b : Option Int) : ∃ m : List Nat, cutS (tx l) a b = tx m ∧ (∀ c ∈ m, c ∈ l) ∧ m.length ≤ l.length := by
  refine ⟨tl (cutS (tx l) a b), (mk_tl _).symm, ?_, ?_⟩
  · intro c hc
    exact List.mem_of_mem_drop (List.mem_of_mem_take (show c ∈ (l.drop _).take _ from hc))
  · rw [← len_tl, ← tx_len l]
    exact cutS_length _ _ _
theorem cut_ex (l : List (List Nat)) (a b : Option Int) : ∃ m : List (List Nat), cutD (l.map txD) a b = m.map txD ∧ (∀ p ∈ m, p ∈ l) ∧ m.length ≤ l.length := by
  unfold cutD
  rw [← List.map_drop, ← List.map_take]
  refine ⟨_, rfl, fun p hp => List.mem_of_mem_drop (List.mem_of_mem_take hp), ?_⟩
  rw [List.length_take, List.length_drop]
  omega
theorem w_bj {ps : List (List Nat)} {S : Store} {P : D → Store → Prop} {E : Str → Store → Prop} (h1 : ∀ p ∈ ps, Pt p ∧ p.length ≤ 20) (h2 : ps.length ≤ 12) (H : ∀ y, Okt y → P (txD y) S) : W (gJoin (tx [10]) (.list (ps.map txD))) S P E := by
  have h3 := sum_le (b := 20) (l := ps) fun p hp => (h1 p hp).2
  have h4 := join_len (s := 10) ps
  refine w_txjoin (by omega) (H _ ⟨fun c hc => ?_, by omega⟩)
  rcases mem_joinL hc with hc | ⟨p, hp, hc⟩
  · rw [List.mem_singleton.mp hc]; decide
  · exact (h1 p hp).1 c hc
def marks : List (List Nat) := [[32], [120], [10], [49], [48], [32, 50], [10, 119, 97, 108, 108, 32, 49, 32, 48, 32, 49], [10, 101, 110, 100, 32, 51], [45]]
theorem marks_ok : ∀ m ∈ marks, Okt m ∧ m.length ≤ 20 := by unfold Okt Pt; decide
theorem k_marks : [D.str " ", .str "x", .str "\n", .str "1", .str "0", .str " 2", .str "\nwall 1 0 1", .str "\nend 3", .str "-"] = marks.map txD := rfl
theorem m_law_bent {S : Store} {n : Nat} {x : List Nat} (b : Bag S n) (hx : Pt x) (hl : x.length ≤ 105) (hL : ∀ p ∈ spl [10] 0 [] x, p.length ≤ 20) (h5 : (spl [10] 0 [] x).length ≤ 5) : W (r__law_bent [.cell n, txD x]) S (fun d S' => (∃ y, d = txD y ∧ Okt y) ∧ Upd S n S') NE := by
  unfold r__law_bent
  rw [W_fnT]
  unfold b__law_bent
  rw [k_nl]
  show WS _ [some (.cell n), some (txD x), none, none, none, none, none] S _ _ _
  have hp : ∀ p ∈ spl [10] 0 [] x, Pt p ∧ p.length ≤ 20 := fun p hp => ⟨spl_pt hx hp, hL p hp⟩
  trivial
  refine W_mono (m_take b (by omega)) fun d S1 ⟨⟨at', e1, a0, a1⟩, u1⟩ => ?_
  subst e1
  have b1 := b.upd u1
  trivial
  refine W_mono (m_take b1 (by omega)) fun d S2 ⟨⟨way, e2, w0, w1⟩, u2⟩ => ?_
  subst e2
  have b2 := b1.upd u2
  trivial
  have ls0 : 0 < (spl [10] 0 [] x).length := List.length_pos_iff.mpr (spl_ne _ _)
  refine W_mono (m_take b2 (by rw [List.length_map]; omega)) fun d S3 ⟨⟨ln, e3, l0, l1⟩, u3⟩ => ?_
  subst e3
  have b3 := b2.upd u3
  have u := u1.trans (u2.trans u3)
  have fin : ∀ {S' : Store} {y : List Nat}, Upd S n S' → Okt y → ((∃ z, txD y = txD z ∧ Okt z) ∧ Upd S n (S'.take S.length)) := fun u h => ⟨⟨_, rfl, h⟩, u.take⟩
  generalize spl [10] 0 [] x = ls at *
  trivial
  refine if_dec (fun _ => ?_) fun _ => ?_
  · trivial
    have em : D.list [D.str " ", .str "x", txD [10], .str "1", .str "0", .str " 2", .str "\nwall 1 0 1", .str "\nend 3", .str "-"] = .list (marks.map txD) := rfl
    rw [em]
    refine W_mono (m_choice b3 (by decide) (by rfl)) fun d S4 ⟨hm, u4⟩ => ?_
    obtain ⟨mk, hmk, rfl⟩ := List.mem_map.mp hm
    obtain ⟨⟨k1, _⟩, k2⟩ := marks_ok mk hmk
    trivial
    obtain ⟨p, ep, p1, p2⟩ := cut_tx x none (some at')
    rw [ep]
    trivial
    obtain ⟨q, eq, q1, q2⟩ := cut_tx x (some at') none
    rw [eq]
    trivial
    exact fin (u.trans u4) ⟨(Pt.app (fun c hc => hx c (p1 c hc)) k1).app (fun c hc => hx c (q1 c hc)), by simp; omega⟩
  trivial
  refine if_dec (fun _ => ?_) fun _ => ?_
  · trivial
    obtain ⟨p, ep, p1, p2⟩ := cut_tx x none (some at')
    obtain ⟨q, eq, q1, q2⟩ := cut_tx x (some (at' + 1)) none
    rw [ep]
    trivial
    rw [eq]
    trivial
    exact fin u ⟨Pt.app (fun c hc => hx c (p1 c hc)) (fun c hc => hx c (q1 c hc)), by simp; omega⟩
  have two : ∀ {p q : List (List Nat)}, (∀ z ∈ p, z ∈ ls) → (∀ z ∈ q, z ∈ ls) → ∀ z ∈ p ++ q, Pt z ∧ z.length ≤ 20 := fun h k z hz => (List.mem_append.mp hz).elim (fun z' => hp z (h z z')) fun z' => hp z (k z z')
  trivial
  refine if_dec (fun _ => ?_) fun _ => ?_
  · trivial
    obtain ⟨p, ep, p1, p2⟩ := cut_ex ls none (some ln)
    obtain ⟨q, eq, q1, q2⟩ := cut_ex ls (some (ln + 1)) none
    rw [ep, eq]
    trivial
    rw [← List.map_append]
    refine w_bj (two p1 q1) (by simp; omega) fun y hy => ?_
    trivial
    exact fin u hy
  trivial
  refine if_dec (fun _ => ?_) fun _ => ?_
  · trivial
    obtain ⟨p, ep, p1, p2⟩ := cut_ex ls none (some (ln + 1))
    obtain ⟨q, eq, q1, q2⟩ := cut_ex ls (some ln) none
    rw [ep, eq]
    trivial
    rw [← List.map_append]
    refine w_bj (two p1 q1) (by simp; omega) fun y hy => ?_
    trivial
    exact fin u hy
  trivial
  refine if_dec (fun _ => ?_) fun _ => ?_
  · trivial
    obtain ⟨p, ep, p1, p2⟩ := cut_ex ls (some ln) none
    obtain ⟨q, eq, q1, q2⟩ := cut_ex ls none (some ln)
    rw [ep, eq]
    trivial
    rw [← List.map_append]
    refine w_bj (two p1 q1) (by simp; omega) fun y hy => ?_
    trivial
    exact fin u hy
  trivial
  obtain ⟨p, ep, p1, p2⟩ := cut_ex ls none (some 1)
  rw [ep]
  have ed : ((ls.map txD).drop 1).reverse = ((ls.drop 1).reverse).map txD := by rw [← List.map_drop, List.map_reverse]
  unfold gDown
  dsimp only
  rw [ed]
  trivial
  rw [← List.map_append]
  refine w_bj (two p1 fun z hz => List.mem_of_mem_drop (List.mem_reverse.mp hz)) (by simp; omega) fun y hy => ?_
  trivial
  exact fin u hy
end Z
end
section
set_option maxHeartbeats 4000000
namespace Z
open PySem PySem.Spec L2
local macro_rules | `(tactic| trivial) => `(tactic| repeat (first
  | with_reducible refine WSt.h ?_
  | ((with_reducible apply w_rd_c); · assumption)
  | ((with_reducible apply w_rd_ok); · assumption)
  | ((with_reducible apply w_new); · first | rfl | assumption | (simp; done))
  | ((with_reducible apply len_ok); · rfl)
  | ((with_reducible apply len_eq); · rfl)
  | ((with_reducible apply w_is_int_ok); · assumption)
  | ((with_reducible apply w_is_bool_ok); · assumption)
  | ((with_reducible apply w_is_str_ok); · assumption)
  | ((with_reducible apply w_is_list_ok); · assumption)
  | ((with_reducible apply w_is_tuple_ok); · assumption)
  | ((with_reducible apply w_addT); · first | omega | (simp; omega) | (simp; done))
  | ((with_reducible apply w_addL); · first | omega | (simp; omega) | (simp; done))
  | ((with_reducible apply w_addC); · first | omega | (simp; omega) | (simp; done))
  | ((with_reducible apply w_mul); (· (first | assumption | (refine sm_om ?_; omega))); · (first | assumption | (refine sm_om ?_; omega)))
  | ((with_reducible apply w_div); (· omega); · (first | assumption | (refine sm_om ?_; omega)))
  | ((with_reducible apply w_mod); · first | omega | assumption)
  | ((with_reducible apply w_eqd); (· first | assumption | (simp; done) | (simp [okDs_cons']; done)); · first | assumption | (simp; done) | (simp [okDs_cons']; done))
  | ((with_reducible apply w_ned); (· first | assumption | (simp; done) | (simp [okDs_cons']; done)); · first | assumption | (simp; done) | (simp [okDs_cons']; done))
  | ((with_reducible apply w_ixt); · first | exact at_0 | exact at_1 | exact at_2 | exact at_3 | assumption)
  | ((with_reducible apply w_ixl); · first | exact at_0 | exact at_1 | exact at_2 | exact at_3 | assumption)
  | ((with_reducible apply w_ixf); · first | exact at_0 | exact at_1 | exact at_2 | exact at_3 | assumption)
  | ((with_reducible apply w_rng); · first | omega | (simp; omega) | (simp; done))
  | ((with_reducible apply w_endT); · first | rfl | assumption | (simp; done))
  | ((with_reducible apply w_endL); · first | rfl | assumption | (simp; done))
  | ((with_reducible apply if_d1); · first | assumption | omega)
  | ((with_reducible apply if_d0); · first | assumption | omega)
  | ((with_reducible apply if_n1); · first | assumption | omega)
  | ((with_reducible apply if_n0); · first | assumption | omega)
  | ((with_reducible apply w_txadd); · first | omega | (simp; omega) | (simp; done))
  | ((with_reducible apply w_jns); · first | omega | (simp; omega) | (simp; done))
  | ((with_reducible apply w_txlen); · first | omega | (simp; omega) | (simp; done))
  | ((with_reducible apply w_txslice); · first | omega | (simp; omega) | (simp; done))
  | ((with_reducible apply w_txsplit); (· decide); · first | omega | (simp; omega) | (simp; done))
  | ((with_reducible apply w_fmt); (· first | assumption | omega); · first | assumption | omega)
  | ((with_reducible apply w_strI); (· first | assumption | omega); · first | assumption | omega)))
open TL
theorem w_told_ok {g : List D → M D} {d : D} {S : Store} {P : D → Store → Prop} {E : Str → Store → Prop} (e : g [] = pure d) (H : P (.tuple [d, .str ""]) S) : W (G__law_told g []) S P E := by
  unfold W G__law_told G_err
  rw [e]
  exact H
theorem w_told_err {g : List D → M D} {c : Str} {S : Store} {P : D → Store → Prop} {E : Str → Store → Prop} (e : g [] = raise c) (hc : c ∈ errN) (H : P (.tuple [.none, .str (wdE c)]) S) : W (G__law_told g []) S P E := by
  unfold W G__law_told G_err
  rw [e]
  rw [show (raise c : M D) S = Res.err c S from rfl]
  dsimp only
  unfold errN at hc
  rw [if_pos hc]
  exact H
theorem err_text : ("InvalidText" : Str) ∈ errN ∧ wdE "InvalidText" = "text" := by decide +kernel
theorem err_hall : ("InvalidHall" : Str) ∈ errN ∧ wdE "InvalidHall" = "hall" := by decide +kernel
theorem call1 {r : List D → M D} {v : D} : eCall 1 r (aCons (eVar 0) aNil) [some v] = r [v] := rfl
theorem TT_head (h : Hl) : ∃ r, TT h = 104 :: r := by
  unfold TT J linesH
  rw [List.map_cons, joinL_cons (by simp)]
  exact ⟨_, rfl⟩
theorem prog_head {c : Nat} {l : List Nat} (h : c ≠ 104) : progRead (c :: l) = none := by
  cases e : progRead (c :: l) with
  | none => rfl
  | some d =>
    obtain ⟨h', _, _, e2, _⟩ := prog_iff.mp e
    obtain ⟨r, e3⟩ := TT_head h'
    rw [e3] at e2
    injection e2 with e2 _
    exact absurd e2 h
theorem spl_snoc {s : Nat} : ∀ (l acc : List Nat), spl [s] 0 acc (l ++ [s]) = spl [s] 0 acc l ++ [[]]
  | [], acc => by
    rw [List.nil_append, spl1_cons, if_pos rfl, spl_nil, spl_nil]
    rfl
  | c :: l, acc => by
    rw [List.cons_append, spl1_cons, spl1_cons]
    by_cases h : c = s
    · rw [if_pos h, if_pos h, spl_snoc l]; rfl
    · rw [if_neg h, if_neg h, spl_snoc l]
theorem prog_nl {l : List Nat} : progRead (l ++ [10]) = none := by
  cases e : progRead (l ++ [10]) with
  | none => rfl
  | some d =>
    obtain ⟨h', H, _, e2, _⟩ := prog_iff.mp e
    have e3 : rowsT (l ++ [10]) = linesH h' := by rw [e2]; exact rows_TT H
    unfold rowsT at e3
    rw [spl_snoc, List.map_append] at e3
    unfold linesH at e3
    rw [← List.cons_append] at e3
    have e4 := (List.append_inj' e3 rfl).2
    injection e4 with e4 _
    have e5 : (spl [32] 0 [] []).length = ([wEnd, numT h'.e] : List (List Nat)).length := by rw [e4]
    exact absurd (show 1 = 2 from e5) (by decide)
theorem read_no_text {v : D} (h : v = .none ∨ (∃ i, v = .int i) ∨ ∃ x, v = .tuple [txD x]) : r_read_hall [v] = raise "InvalidText" := by
  refine W_eqE fun S => ?_
  unfold r_read_hall
  rw [W_fnT]
  unfold b_read_hall
  show WS _ [some v, none, none, none, none] S _ _ _
  rcases h with rfl | ⟨i, rfl⟩ | ⟨x, rfl⟩ <;> trivial <;> exact ⟨rfl, rfl⟩
theorem prog_TT {h : Hl} (H : HOk h) (hi : isHall (hD h) = true) : progRead (TT h) = some (hD h) := prog_iff.mpr ⟨h, H, hi, rfl, rfl⟩
mutual
theorem eqD_self : ∀ {n : Nat} {d : D}, okD n d = true → eqD d d = true
  | _, .none, _ => rfl
  | _, .bool b, _ => by simp [eqD]
  | _, .int i, _ => by simp [eqD]
  | _, .str s, _ => by simp [eqD]
  | n + 1, .list xs, h => by rw [eqD]; exact eqDs_self (by simpa [okD] using h)
  | n + 1, .tuple xs, h => by rw [eqD]; exact eqDs_self (by simpa [okD] using h)
  | 0, .list xs, h => by simp [okD] at h
  | 0, .tuple xs, h => by simp [okD] at h
  | 0, .cell _, h => by simp [okD] at h
  | n + 1, .cell _, h => by simp [okD] at h
  | 0, .fn _, h => by simp [okD] at h
  | n + 1, .fn _, h => by simp [okD] at h
  | 0, .frz _, h => by simp [okD] at h
  | n + 1, .frz _, h => by simp [okD] at h
  | 0, .adr _, h => by simp [okD] at h
  | n + 1, .adr _, h => by simp [okD] at h
theorem eqDs_self : ∀ {n : Nat} {ds : List D}, okDs n ds = true → eqDs ds ds = true
  | _, [], _ => rfl
  | n, d :: ds, h => by
    rw [okDs, Bool.and_eq_true] at h
    rw [eqDs, eqD_self h.1, eqDs_self h.2]; rfl
end
end Z
end
section
set_option maxHeartbeats 4000000
namespace Z
open PySem PySem.Spec L2
local macro_rules | `(tactic| trivial) => `(tactic| repeat (first
  | with_reducible refine WSt.h ?_
  | ((with_reducible apply w_rd_c); · assumption)
  | ((with_reducible apply w_rd_ok); · assumption)
  | ((with_reducible apply w_new); · first | rfl | assumption | (simp; done))
  | ((with_reducible apply len_ok); · rfl)
  | ((with_reducible apply len_eq); · rfl)
  | ((with_reducible apply w_is_int_ok); · assumption)
  | ((with_reducible apply w_is_bool_ok); · assumption)
  | ((with_reducible apply w_is_str_ok); · assumption)
  | ((with_reducible apply w_is_list_ok); · assumption)
  | ((with_reducible apply w_is_tuple_ok); · assumption)
  | ((with_reducible apply w_addT); · first | omega | (simp; omega) | (simp; done))
  | ((with_reducible apply w_addL); · first | omega | (simp; omega) | (simp; done))
  | ((with_reducible apply w_addC); · first | omega | (simp; omega) | (simp; done))
  | ((with_reducible apply w_mul); (· (first | assumption | (refine sm_om ?_; omega))); · (first | assumption | (refine sm_om ?_; omega)))
  | ((with_reducible apply w_div); (· omega); · (first | assumption | (refine sm_om ?_; omega)))
  | ((with_reducible apply w_mod); · first | omega | assumption)
  | ((with_reducible apply w_eqd); (· first | assumption | (simp; done) | (simp [okDs_cons']; done)); · first | assumption | (simp; done) | (simp [okDs_cons']; done))
  | ((with_reducible apply w_ned); (· first | assumption | (simp; done) | (simp [okDs_cons']; done)); · first | assumption | (simp; done) | (simp [okDs_cons']; done))
  | ((with_reducible apply w_ixt); · first | exact at_0 | exact at_1 | exact at_2 | exact at_3 | assumption)
  | ((with_reducible apply w_ixl); · first | exact at_0 | exact at_1 | exact at_2 | exact at_3 | assumption)
  | ((with_reducible apply w_ixf); · first | exact at_0 | exact at_1 | exact at_2 | exact at_3 | assumption)
  | ((with_reducible apply w_rng); · first | omega | (simp; omega) | (simp; done))
  | ((with_reducible apply w_endT); · first | rfl | assumption | (simp; done))
  | ((with_reducible apply w_endL); · first | rfl | assumption | (simp; done))
  | ((with_reducible apply if_d1); · first | assumption | omega)
  | ((with_reducible apply if_d0); · first | assumption | omega)
  | ((with_reducible apply if_n1); · first | assumption | omega)
  | ((with_reducible apply if_n0); · first | assumption | omega)
  | ((with_reducible apply w_txadd); · first | omega | (simp; omega) | (simp; done))
  | ((with_reducible apply w_jns); · first | omega | (simp; omega) | (simp; done))
  | ((with_reducible apply w_txlen); · first | omega | (simp; omega) | (simp; done))
  | ((with_reducible apply w_txslice); · first | omega | (simp; omega) | (simp; done))
  | ((with_reducible apply w_txsplit); (· decide); · first | omega | (simp; omega) | (simp; done))
  | ((with_reducible apply w_fmt); (· first | assumption | omega); · first | assumption | omega)
  | ((with_reducible apply w_strI); (· first | assumption | omega); · first | assumption | omega)))
open TL
def lwB1 : BS := (sSeq (sSet 6 (eCall 2 r__law_bent (aCons (eVar 2) (aCons (eVar 4) aNil)))) (sSeq (sSet 7 (eCall 1 r__law_read (aCons (eVar 6) aNil))) (sSeq (sIf (tB1 (e2 (g2 gNe) (eHof 0 1 [6] (eCall 1 r_read_hall (aCons (eVar 0) aNil)) (G__law_told) aNil) (eIf (tB1 (e2 (g2 (gIs false)) (eVar 7) (eC .none))) (eTup (aCons (eC .none) (aCons (eC (.str "text")) aNil))) (eTup (aCons (eVar 7) (aCons (eC (.str "")) aNil)))))) (sSeq (sRet (eC (.bool false))) sNil) sNil) sNil)))
def lwB2 : BS := (sSeq (sIf (tB1 (e2 (g2 gNe) (eHof 0 1 [8] (eCall 1 r_read_hall (aCons (eVar 0) aNil)) (G__law_told) aNil) (eTup (aCons (eC .none) (aCons (eC (.str "text")) aNil))))) (sSeq (sRet (eC (.bool false))) sNil) sNil) sNil)
def lwB3 : BS := (sSeq (sSet 2 (eCall 2 r__law_bag (aCons (eVar 0) (aCons (eVar 1) aNil)))) (sSeq (sSet 3 (eCall 2 r__law_hall (aCons (eVar 2) (aCons (eC (.int 3)) aNil)))) (sSeq (sSet 4 (eCall 1 r__law_text (aCons (eVar 3) aNil))) (sSeq (sIf (bOr (tB1 (e2 (g2 gNe) (eCall 1 r_hall_text (aCons (eVar 3) aNil)) (eVar 4))) (tB1 (e2 (g2 gNe) (eCall 1 r_read_hall (aCons (eVar 4) aNil)) (eVar 3)))) (sSeq (sRet (eC (.bool false))) sNil) sNil) (sSeq (sFor (iRg (eC (.int 14))) (.name 5) lwB1) (sSeq (sFor (iSeq (eLst (aCons (eC .none) (aCons (eC (.int 5)) (aCons (eC (.str "")) (aCons (eC (.str "high 5")) (aCons (eC (.str "end 5")) (aCons (eTup (aCons (eVar 4) aNil)) (aCons (e2 (g2 gAdd) (eVar 4) (eC (.str "\n"))) (aCons (e2 (g2 gAdd) (eC (.str "\n")) (eVar 4)) (aCons (e2 (g2 gAdd) (eC (.str " ")) (eVar 4)) (aCons (eC (.str "high\nend")) aNil)))))))))))) (.name 8) lwB2) (sSeq (sIf (tB1 (e2 (g2 gNe) (eHof 0 1 [3] (eCall 1 r_hall_text (aCons (eCB (c1 gList) (aCons (eVar 0) aNil)) aNil)) (G__law_told) aNil) (eTup (aCons (eC .none) (aCons (eC (.str "hall")) aNil))))) (sSeq (sRet (eC (.bool false))) sNil) sNil) sNil)))))))
def lwB4 : BS := (sSeq (sIf (tB1 (e2 (g2 gNe) (eHof 0 1 [4] (eCall 1 r_read_hall (aCons (eVar 0) aNil)) (G__law_told) aNil) (eTup (aCons (eC .none) (aCons (eC (.str "text")) aNil))))) (sSeq (sRet (eC (.bool false))) sNil) sNil) sNil)
theorem lw_b (i : Nat) : b_law i = (sSeq (sFor (iRg (eC (.int 8))) (.name 1) lwB3) (sSeq (sSet 9 (eLst (aCons (eC (.str "high 05\nend 5")) (aCons (eC (.str "high 5\nend 6")) (aCons (eC (.str "high 5\nwall 2 3 1\nend 5")) (aCons (eC (.str "high 5\nwall 2 1\nend 5")) aNil)))))) (sSeq (sSet 9 (e2 (g2 gAdd) (eVar 9) (eLst (aCons (eC (.str "high 5\nwall 3 0 1\nwall 2 0 1\nend 5")) (aCons (eC (.str "high 61\nend 5")) (aCons (eC (.str "high 5\nend 5 ")) (aCons (eC (.str "tall 5\nend 5")) aNil))))))) (sSeq (sFor (iSeq (e2 (g2 gAdd) (eVar 9) (eLst (aCons (eC (.str "high 5 5\nend 5")) (aCons (e2 (g2 gAdd) (e2 (g2 gAdd) (eC (.str "high 9")) (e2 (g2 gMulStr) (eC (.str "\nwall 1 0 0")) (eC (.int 4)))) (eC (.str "\nend 9"))) aNil))))) (.name 4) lwB4) (sSeq (sRet (eAnd (e2 (g2 gEq) (eCall 1 r_read_hall (aCons (eC (.str "high 5\nend 5")) aNil)) (eTup (aCons (eC (.int 5)) (aCons (eTup aNil) (aCons (eC (.int 5)) aNil))))) (e2 (g2 gEq) (eCall 1 r_read_hall (aCons (eC (.str "high 9\nwall 8 0 9\nend 9")) aNil)) (eTup (aCons (eC (.int 9)) (aCons (eTup (aCons (eTup (aCons (eC (.int 8)) (aCons (eC (.int 0)) (aCons (eC (.int 9)) aNil)))) aNil)) (aCons (eC (.int 9)) aNil))))))) sNil))))) := rfl
theorem lines_TT {h : Hl} (H : HOk h) : spl [10] 0 [] (TT h) = (linesH h).map (joinL [32]) := by
  unfold TT J
  refine spl_join (by simp [linesH]) fun q hq => ?_
  obtain ⟨p, hp, rfl⟩ := List.mem_map.mp hq
  intro z
  rcases mem_joinL z with z | ⟨w, hw, hc⟩
  · simp at z
  · exact ((lines_words H p hp).2 w hw).1 hc
theorem k_emp0 : D.str "" = txD [] := rfl
theorem ok_text : PyData.strOk "text" = true := by decide +kernel
theorem ok_hall : PyData.strOk "hall" = true := by decide +kernel
theorem ok_emp : PyData.strOk "" = true := by decide +kernel
theorem told_hall {h : Hl} : okD 64 (.tuple [hD h, .str ""]) = true ∧ eqD (.tuple [hD h, .str ""]) (.tuple [hD h, .str ""]) = true := by
  have k : okD 64 (.tuple [hD h, .str ""]) = true := by
    rw [okD_tuple, okDs_cons, okDs_cons, okD_hD (n := 60), okD_str, ok_emp]
    rfl
  exact ⟨k, eqD_self k⟩
theorem told_text : okD 64 (.tuple [.none, .str "text"]) = true ∧ eqD (.tuple [.none, .str "text"]) (.tuple [.none, .str "text"]) = true := by
  have k : okD 64 (.tuple [.none, .str "text"]) = true := by
    rw [okD_tuple, okDs_cons, okDs_cons, okD_str, ok_text]
    rfl
  exact ⟨k, eqD_self k⟩
theorem told_hl : okD 64 (.tuple [.none, .str "hall"]) = true ∧ eqD (.tuple [.none, .str "hall"]) (.tuple [.none, .str "hall"]) = true := by
  have k : okD 64 (.tuple [.none, .str "hall"]) = true := by
    rw [okD_tuple, okDs_cons, okDs_cons, okD_str, ok_hall]
    rfl
  exact ⟨k, eqD_self k⟩
theorem lw_1 {h : Hl} (H : HOk h) {S : Store} {c : Nat} (b : Bag S c) {a0 a1 a3 a5 y6 y7 a8 a9 : Option D} {Pr : D → Store → Prop} :
    WS lwB1 [a0, a1, some (.cell c), a3, some (txD (TT h)), a5, y6, y7, a8, a9] S (fun v S' => (∃ y6 y7, v = [a0, a1, some (.cell c), a3, some (txD (TT h)), a5, y6, y7, a8, a9]) ∧ Bag S' c) Pr NE := by
  unfold lwB1
  trivial
  have l1 := TT_len H
  have l2 := linesH_len H
  refine W_mono (m_law_bent b (TT_pt H) l1 (by rw [lines_TT H]; exact line_le H) (by rw [lines_TT H, List.length_map]; exact l2)) fun d S1 ⟨⟨y, e, oy1, oy2⟩, u⟩ => ?_
  subst e
  have b1 := b.upd u
  trivial
  refine w_eq (m_law_read oy1 oy2) ?_
  rw [law_prog]
  have t1 := told_text
  cases hp : progRead y with
  | none =>
    trivial
    refine w_told_err (m_read_no oy1 (by omega) hp) err_text.1 ?_
    rw [err_text.2]
    trivial
    refine w_ned t1.1 t1.1 ?_
    rw [t1.2]
    trivial
    exact ⟨⟨_, _, rfl⟩, b1⟩
  | some d =>
    obtain ⟨h', H', hi', e1, rfl⟩ := prog_iff.mp hp
    have t2 := told_hall (h := h')
    trivial
    refine w_told_ok (m_read_ok oy1 (by omega) hp) ?_
    have e0 : (some (hD h')).getD D.none = hD h' := rfl
    rw [e0]
    rw [hD_eq] at t2 ⊢
    trivial
    refine w_ned t2.1 t2.1 ?_
    rw [t2.2]
    trivial
    exact ⟨⟨_, _, rfl⟩, b1⟩
end Z
end
section
set_option maxHeartbeats 4000000
namespace Z
open PySem PySem.Spec L2
local macro_rules | `(tactic| trivial) => `(tactic| repeat (first
  | with_reducible refine WSt.h ?_
  | ((with_reducible apply w_rd_c); · assumption)
  | ((with_reducible apply w_rd_ok); · assumption)
  | ((with_reducible apply w_new); · first | rfl | assumption | (simp; done))
  | ((with_reducible apply len_ok); · rfl)
  | ((with_reducible apply len_eq); · rfl)
  | ((with_reducible apply w_is_int_ok); · assumption)
  | ((with_reducible apply w_is_bool_ok); · assumption)
  | ((with_reducible apply w_is_str_ok); · assumption)
  | ((with_reducible apply w_is_list_ok); · assumption)
  | ((with_reducible apply w_is_tuple_ok); · assumption)
  | ((with_reducible apply w_addT); · first | omega | (simp; omega) | (simp; done))
  | ((with_reducible apply w_addL); · first | omega | (simp; omega) | (simp; done))
  | ((with_reducible apply w_addC); · first | omega | (simp; omega) | (simp; done))
  | ((with_reducible apply w_mul); (· (first | assumption | (refine sm_om ?_; omega))); · (first | assumption | (refine sm_om ?_; omega)))
  | ((with_reducible apply w_div); (· omega); · (first | assumption | (refine sm_om ?_; omega)))
  | ((with_reducible apply w_mod); · first | omega | assumption)
  | ((with_reducible apply w_eqd); (· first | assumption | (simp; done) | (simp [okDs_cons']; done)); · first | assumption | (simp; done) | (simp [okDs_cons']; done))
  | ((with_reducible apply w_ned); (· first | assumption | (simp; done) | (simp [okDs_cons']; done)); · first | assumption | (simp; done) | (simp [okDs_cons']; done))
  | ((with_reducible apply w_ixt); · first | exact at_0 | exact at_1 | exact at_2 | exact at_3 | assumption)
  | ((with_reducible apply w_ixl); · first | exact at_0 | exact at_1 | exact at_2 | exact at_3 | assumption)
  | ((with_reducible apply w_ixf); · first | exact at_0 | exact at_1 | exact at_2 | exact at_3 | assumption)
  | ((with_reducible apply w_rng); · first | omega | (simp; omega) | (simp; done))
  | ((with_reducible apply w_endT); · first | rfl | assumption | (simp; done))
  | ((with_reducible apply w_endL); · first | rfl | assumption | (simp; done))
  | ((with_reducible apply if_d1); · first | assumption | omega)
  | ((with_reducible apply if_d0); · first | assumption | omega)
  | ((with_reducible apply if_n1); · first | assumption | omega)
  | ((with_reducible apply if_n0); · first | assumption | omega)
  | ((with_reducible apply w_txadd); · first | omega | (simp; omega) | (simp; done))
  | ((with_reducible apply w_jns); · first | omega | (simp; omega) | (simp; done))
  | ((with_reducible apply w_txlen); · first | omega | (simp; omega) | (simp; done))
  | ((with_reducible apply w_txslice); · first | omega | (simp; omega) | (simp; done))
  | ((with_reducible apply w_txsplit); (· decide); · first | omega | (simp; omega) | (simp; done))
  | ((with_reducible apply w_fmt); (· first | assumption | omega); · first | assumption | omega)
  | ((with_reducible apply w_strI); (· first | assumption | omega); · first | assumption | omega)))
open TL
theorem lw_2 {S : Store} {v : D} (e : r_read_hall [v] = raise "InvalidText") {a0 a1 a2 a3 a4 a5 a6 a7 a9 : Option D} {Pr : D → Store → Prop} :
    WS lwB2 [a0, a1, a2, a3, a4, a5, a6, a7, some v, a9] S (fun v' S' => v' = [a0, a1, a2, a3, a4, a5, a6, a7, some v, a9] ∧ S' = S) Pr NE := by
  unfold lwB2
  have t1 := told_text
  trivial
  refine w_told_err (c := "InvalidText") e err_text.1 ?_
  rw [err_text.2]
  trivial
  refine w_ned t1.1 t1.1 ?_
  rw [t1.2]
  trivial
  exact ⟨rfl, rfl⟩
theorem lw_4 {S : Store} {v : D} (e : r_read_hall [v] = raise "InvalidText") {a0 a1 a2 a3 a5 a6 a7 a8 a9 : Option D} {Pr : D → Store → Prop} :
    WS lwB4 [a0, a1, a2, a3, some v, a5, a6, a7, a8, a9] S (fun v' S' => v' = [a0, a1, a2, a3, some v, a5, a6, a7, a8, a9] ∧ S' = S) Pr NE := by
  unfold lwB4
  have t1 := told_text
  trivial
  refine w_told_err (c := "InvalidText") e err_text.1 ?_
  rw [err_text.2]
  trivial
  refine w_ned t1.1 t1.1 ?_
  rw [t1.2]
  trivial
  exact ⟨rfl, rfl⟩
theorem closed_no {x : List Nat} (h : ((progRead x).isNone && x.all (fun c => decide (c < 128)) && decide (x.length ≤ 10000)) = true) : r_read_hall [txD x] = raise "InvalidText" := by
  rw [Bool.and_eq_true, Bool.and_eq_true] at h
  refine m_read_no (fun c hc => of_decide_eq_true (List.all_eq_true.mp h.1.2 c hc)) (of_decide_eq_true h.2) ?_
  exact Option.isNone_iff_eq_none.mp h.1.1
def high5 : List Nat := [104, 105, 103, 104, 32, 53]
def end5 : List Nat := [101, 110, 100, 32, 53]
def highend : List Nat := [104, 105, 103, 104, 10, 101, 110, 100]
theorem odd_1 : r_read_hall [txD []] = raise "InvalidText" := closed_no (by decide +kernel)
theorem odd_2 : r_read_hall [txD high5] = raise "InvalidText" := closed_no (by decide +kernel)
theorem odd_3 : r_read_hall [txD end5] = raise "InvalidText" := closed_no (by decide +kernel)
theorem odd_4 : r_read_hall [txD highend] = raise "InvalidText" := closed_no (by decide +kernel)
theorem odd_all {h : Hl} (H : HOk h) : ∀ v ∈ [D.none, .int 5, txD [], txD high5, txD end5, .tuple [txD (TT h)], txD (TT h ++ [10]), txD ([10] ++ TT h), txD ([32] ++ TT h), txD highend], r_read_hall [v] = raise "InvalidText" := by
  have l1 := TT_len H
  have pt := TT_pt H
  intro v hv
  simp only [List.mem_cons, List.not_mem_nil, or_false] at hv
  rcases hv with rfl | rfl | rfl | rfl | rfl | rfl | rfl | rfl | rfl | rfl
  · exact read_no_text (.inl rfl)
  · exact read_no_text (.inr (.inl ⟨_, rfl⟩))
  · exact odd_1
  · exact odd_2
  · exact odd_3
  · exact read_no_text (.inr (.inr ⟨_, rfl⟩))
  · exact m_read_no (pt.app (by unfold Pt; decide)) (by simp; omega) prog_nl
  · exact m_read_no (Pt.app (by unfold Pt; decide) pt) (by simp; omega) (prog_head (by decide))
  · exact m_read_no (Pt.app (by unfold Pt; decide) pt) (by simp; omega) (prog_head (by decide))
  · exact odd_4
theorem lw_3 {ns : List Int} (hl : ns.length ≤ 63) {k : Nat} (hk : k ≤ 100) {S : Store} {y2 y3 y4 y5 y6 y7 y8 : Option D} {Pr : D → Store → Prop} :
    WS lwB3 [some (script ns), some (.int (k : Nat)), y2, y3, y4, y5, y6, y7, y8, none] S (fun v _ => ∃ y2 y3 y4 y5 y6 y7 y8, v = [some (script ns), some (.int (k : Nat)), y2, y3, y4, y5, y6, y7, y8, none]) Pr NE := by
  unfold lwB3
  trivial
  refine w_bag hl hk fun S1 c b1 => ?_
  trivial
  refine w_hall b1 (by decide) (by decide) fun hh e ws S2 hi _ _ _ _ _ b2 => ?_
  obtain ⟨h, e1, H⟩ := hall_hl hi
  rw [e1] at hi
  have l1 := TT_len H
  have pt := TT_pt H
  have okt := okD_tx (n := 64) pt
  have okh := okD_hD (n := 61) h
  have se : eqD (hD h) (hD h) = true := eqD_self okh
  have st : eqD (txD (TT h)) (txD (TT h)) = true := eqD_self okt
  rw [e1]
  trivial
  refine w_eq (m_law_text H) ?_
  trivial
  refine w_eq (m_hall_text H hi) ?_
  trivial
  rw [st]
  trivial
  refine w_eq (m_read_ok pt (by omega) (prog_TT H hi)) ?_
  rw [hD_eq] at okh se ⊢
  trivial
  rw [se]
  trivial
  refine WSF_inv (fun _ v S' => (∃ y5 y6 y7, v = [some (script ns), some (.int (k : Nat)), some (.cell c), some (.tuple [.int h.hh, .tuple (h.wl.map wD), .int h.e]), some (txD (TT h)), y5, y6, y7, y8, none]) ∧ Bag S' c) (fun _ => rfl) _ 0 _ _ (fun i d env S4 hd hinv => ?_) ⟨⟨_, _, _, rfl⟩, b2⟩ (fun v S4 hv => ?_)
  · obtain ⟨⟨y5, y6, y7, rfl⟩, b4⟩ := hinv
    refine ⟨_, rfl, WS_mono (lw_1 H b4) (fun v S5 hv => ?_) fun _ _ h => h⟩
    obtain ⟨⟨y6, y7, rfl⟩, b5⟩ := hv
    exact ⟨⟨_, _, _, rfl⟩, b5⟩
  obtain ⟨⟨y5, y6, y7, rfl⟩, b4⟩ := hv
  rw [k_nl, k_bl, k_emp0]
  have q2 : D.str "high 5" = txD high5 := rfl
  have q3 : D.str "end 5" = txD end5 := rfl
  have q4 : D.str "high\nend" = txD highend := rfl
  rw [q2, q3, q4]
  trivial
  refine WSF_inv (fun _ v S' => (∃ y8, v = [some (script ns), some (.int (k : Nat)), some (.cell c), some (.tuple [.int h.hh, .tuple (h.wl.map wD), .int h.e]), some (txD (TT h)), y5, y6, y7, y8, none])) (fun _ => rfl) _ 0 _ _ (fun i d env S5 hd hinv => ?_) ⟨_, rfl⟩ (fun v S5 hv => ?_)
  · obtain ⟨y8, rfl⟩ := hinv
    refine ⟨_, rfl, WS_mono (lw_2 (odd_all H _ (List.mem_of_getElem? hd))) (fun v S5 hv => ?_) fun _ _ h => h⟩
    obtain ⟨rfl, _⟩ := hv
    exact ⟨_, rfl⟩
  obtain ⟨y8, rfl⟩ := hv
  have t1 := told_hl
  trivial
  refine w_told_err (c := "InvalidHall") (m_hall_text_no (v := .list [.int h.hh, .tuple (h.wl.map wD), .int h.e]) ?_ rfl) err_hall.1 ?_
  · have := okD_hD (n := 57) h
    rw [hD_eq, okD_tuple] at this
    rw [okD_list]
    exact this
  rw [err_hall.2]
  trivial
  refine w_ned t1.1 t1.1 ?_
  rw [t1.2]
  trivial
  exact ⟨_, _, _, _, _, _, _, rfl⟩
end Z
end
section
set_option maxHeartbeats 4000000
namespace Z
open PySem PySem.Spec L2
local macro_rules | `(tactic| trivial) => `(tactic| repeat (first
  | with_reducible refine WSt.h ?_
  | ((with_reducible apply w_rd_c); · assumption)
  | ((with_reducible apply w_rd_ok); · assumption)
  | ((with_reducible apply w_new); · first | rfl | assumption | (simp; done))
  | ((with_reducible apply len_ok); · rfl)
  | ((with_reducible apply len_eq); · rfl)
  | ((with_reducible apply w_is_int_ok); · assumption)
  | ((with_reducible apply w_is_bool_ok); · assumption)
  | ((with_reducible apply w_is_str_ok); · assumption)
  | ((with_reducible apply w_is_list_ok); · assumption)
  | ((with_reducible apply w_is_tuple_ok); · assumption)
  | ((with_reducible apply w_addT); · first | omega | (simp; omega) | (simp; done))
  | ((with_reducible apply w_addL); · first | omega | (simp; omega) | (simp; done))
  | ((with_reducible apply w_addC); · first | omega | (simp; omega) | (simp; done))
  | ((with_reducible apply w_mul); (· (first | assumption | (refine sm_om ?_; omega))); · (first | assumption | (refine sm_om ?_; omega)))
  | ((with_reducible apply w_div); (· omega); · (first | assumption | (refine sm_om ?_; omega)))
  | ((with_reducible apply w_mod); · first | omega | assumption)
  | ((with_reducible apply w_eqd); (· first | assumption | (simp; done) | (simp [okDs_cons']; done)); · first | assumption | (simp; done) | (simp [okDs_cons']; done))
  | ((with_reducible apply w_ned); (· first | assumption | (simp; done) | (simp [okDs_cons']; done)); · first | assumption | (simp; done) | (simp [okDs_cons']; done))
  | ((with_reducible apply w_ixt); · first | exact at_0 | exact at_1 | exact at_2 | exact at_3 | assumption)
  | ((with_reducible apply w_ixl); · first | exact at_0 | exact at_1 | exact at_2 | exact at_3 | assumption)
  | ((with_reducible apply w_ixf); · first | exact at_0 | exact at_1 | exact at_2 | exact at_3 | assumption)
  | ((with_reducible apply w_rng); · first | omega | (simp; omega) | (simp; done))
  | ((with_reducible apply w_endT); · first | rfl | assumption | (simp; done))
  | ((with_reducible apply w_endL); · first | rfl | assumption | (simp; done))
  | ((with_reducible apply if_d1); · first | assumption | omega)
  | ((with_reducible apply if_d0); · first | assumption | omega)
  | ((with_reducible apply if_n1); · first | assumption | omega)
  | ((with_reducible apply if_n0); · first | assumption | omega)
  | ((with_reducible apply w_txadd); · first | omega | (simp; omega) | (simp; done))
  | ((with_reducible apply w_jns); · first | omega | (simp; omega) | (simp; done))
  | ((with_reducible apply w_txlen); · first | omega | (simp; omega) | (simp; done))
  | ((with_reducible apply w_txslice); · first | omega | (simp; omega) | (simp; done))
  | ((with_reducible apply w_txsplit); (· decide); · first | omega | (simp; omega) | (simp; done))
  | ((with_reducible apply w_fmt); (· first | assumption | omega); · first | assumption | omega)
  | ((with_reducible apply w_strI); (· first | assumption | omega); · first | assumption | omega)))
open TL

def bad0 : List Nat := [104, 105, 103, 104, 32, 48, 53, 10, 101, 110, 100, 32, 53]
theorem bad_0 : r_read_hall [txD bad0] = raise "InvalidText" := closed_no (by decide +kernel)
theorem kb_0 : D.str "high 05\nend 5" = txD bad0 := rfl
def bad1 : List Nat := [104, 105, 103, 104, 32, 53, 10, 101, 110, 100, 32, 54]
theorem bad_1 : r_read_hall [txD bad1] = raise "InvalidText" := closed_no (by decide +kernel)
theorem kb_1 : D.str "high 5\nend 6" = txD bad1 := rfl
def bad2 : List Nat := [104, 105, 103, 104, 32, 53, 10, 119, 97, 108, 108, 32, 50, 32, 51, 32, 49, 10, 101, 110, 100, 32, 53]
theorem bad_2 : r_read_hall [txD bad2] = raise "InvalidText" := closed_no (by decide +kernel)
theorem kb_2 : D.str "high 5\nwall 2 3 1\nend 5" = txD bad2 := rfl
def bad3 : List Nat := [104, 105, 103, 104, 32, 53, 10, 119, 97, 108, 108, 32, 50, 32, 49, 10, 101, 110, 100, 32, 53]
theorem bad_3 : r_read_hall [txD bad3] = raise "InvalidText" := closed_no (by decide +kernel)
theorem kb_3 : D.str "high 5\nwall 2 1\nend 5" = txD bad3 := rfl
def bad4 : List Nat := [104, 105, 103, 104, 32, 53, 10, 119, 97, 108, 108, 32, 51, 32, 48, 32, 49, 10, 119, 97, 108, 108, 32, 50, 32, 48, 32, 49, 10, 101, 110, 100, 32, 53]
theorem bad_4 : r_read_hall [txD bad4] = raise "InvalidText" := closed_no (by decide +kernel)
theorem kb_4 : D.str "high 5\nwall 3 0 1\nwall 2 0 1\nend 5" = txD bad4 := rfl
def bad5 : List Nat := [104, 105, 103, 104, 32, 54, 49, 10, 101, 110, 100, 32, 53]
theorem bad_5 : r_read_hall [txD bad5] = raise "InvalidText" := closed_no (by decide +kernel)
theorem kb_5 : D.str "high 61\nend 5" = txD bad5 := rfl
def bad6 : List Nat := [104, 105, 103, 104, 32, 53, 10, 101, 110, 100, 32, 53, 32]
theorem bad_6 : r_read_hall [txD bad6] = raise "InvalidText" := closed_no (by decide +kernel)
theorem kb_6 : D.str "high 5\nend 5 " = txD bad6 := rfl
def bad7 : List Nat := [116, 97, 108, 108, 32, 53, 10, 101, 110, 100, 32, 53]
theorem bad_7 : r_read_hall [txD bad7] = raise "InvalidText" := closed_no (by decide +kernel)
theorem kb_7 : D.str "tall 5\nend 5" = txD bad7 := rfl
def bad8 : List Nat := [104, 105, 103, 104, 32, 53, 32, 53, 10, 101, 110, 100, 32, 53]
theorem bad_8 : r_read_hall [txD bad8] = raise "InvalidText" := closed_no (by decide +kernel)
theorem kb_8 : D.str "high 5 5\nend 5" = txD bad8 := rfl
def bad9 : List Nat := [104, 105, 103, 104, 32, 57, 10, 119, 97, 108, 108, 32, 49, 32, 48, 32, 48, 10, 119, 97, 108, 108, 32, 49, 32, 48, 32, 48, 10, 119, 97, 108, 108, 32, 49, 32, 48, 32, 48, 10, 119, 97, 108, 108, 32, 49, 32, 48, 32, 48, 10, 101, 110, 100, 32, 57]
theorem bad_9 : r_read_hall [txD bad9] = raise "InvalidText" := closed_no (by decide +kernel)
theorem kb_9 : D.str (Str.ofString "high 9" ++ repS "\nwall 1 0 0" 4 ++ Str.ofString "\nend 9") = txD bad9 := rfl
def h5 : Hl := ⟨5, [], 5⟩
def h9 : Hl := ⟨9, [(8, 0, 9)], 9⟩
theorem h5_ok : HOk h5 := ⟨by decide, by decide, by decide, by decide, by decide, by intro w hw; cases hw⟩
theorem h9_ok : HOk h9 := ⟨by decide, by decide, by decide, by decide, by decide, by intro w hw; rw [show h9.wl = [(8, 0, 9)] from rfl, List.mem_singleton] at hw; subst hw; decide⟩
theorem k_h5 : D.str "high 5\nend 5" = txD (TT h5) := by
  have : TT h5 = [104, 105, 103, 104, 32, 53, 10, 101, 110, 100, 32, 53] := by decide +kernel
  rw [this]; rfl
theorem k_h9 : D.str "high 9\nwall 8 0 9\nend 9" = txD (TT h9) := by
  have : TT h9 = [104, 105, 103, 104, 32, 57, 10, 119, 97, 108, 108, 32, 56, 32, 48, 32, 57, 10, 101, 110, 100, 32, 57] := by decide +kernel
  rw [this]; rfl
theorem read_h (h : Hl) (H : HOk h) (hi : isHall (hD h) = true) : r_read_hall [txD (TT h)] = pure (hD h) := m_read_ok (TT_pt H) (by have := TT_len H; omega) (prog_TT H hi)
theorem w_mulS {z : Str} {n : Int} {S : Store} {P : D → Store → Prop} {E : Str → Store → Prop} (h : (2 ≤ n ∧ n ≤ 1000) ∧ 1 ≤ z.length ∧ z.length ≤ 1000) (H : P (.str (repS z n.toNat)) S) : W (gMulStr (.str z) (.int n)) S P E := by
  unfold gMulStr
  dsimp only
  rw [if_pos ⟨h.1.1, h.1.2, h.2.1, h.2.2⟩]
  exact H
theorem plain0 (ns : List Int) (hl : ns.length ≤ 63) : W (r_law [script ns]) [] (fun d _ => d = .bool true) NE := by
  unfold r_law
  rw [W_fnT, lw_b]
  show WS _ [some (script ns), none, none, none, none, none, none, none, none, none] [] _ _ _
  trivial
  refine WSF_inv (fun i v S' => ∃ y1 y2 y3 y4 y5 y6 y7 y8 : Option D, v = [some (script ns), y1, y2, y3, y4, y5, y6, y7, y8, none]) (fun _ => rfl) _ 0 _ _ (fun i d env S4 hd hinv => ?_) ⟨_, _, _, _, _, _, _, _, rfl⟩ (fun v S4 hv => ?_)
  · obtain ⟨hi, rfl⟩ := range_at hd
    obtain ⟨y1, y2, y3, y4, y5, y6, y7, y8, rfl⟩ := hinv
    refine ⟨_, rfl, WS_mono (lw_3 hl (by simp at hi; omega)) (fun v S5 hv => ?_) fun _ _ h => h⟩
    obtain ⟨y2, y3, y4, y5, y6, y7, y8, rfl⟩ := hv
    exact ⟨_, _, _, _, _, _, _, _, rfl⟩
  obtain ⟨y1, y2, y3, y4, y5, y6, y7, y8, rfl⟩ := hv
  rw [kb_0, kb_1, kb_2, kb_3, kb_4, kb_5, kb_6, kb_7, kb_8]
  have q1 : D.str "high 9" = txD [104, 105, 103, 104, 32, 57] := rfl
  have q2 : D.str "\nend 9" = txD [10, 101, 110, 100, 32, 57] := rfl
  have q3 : D.str (repS "\nwall 1 0 0" (4 : Int).toNat) = txD [10, 119, 97, 108, 108, 32, 49, 32, 48, 32, 48, 10, 119, 97, 108, 108, 32, 49, 32, 48, 32, 48, 10, 119, 97, 108, 108, 32, 49, 32, 48, 32, 48, 10, 119, 97, 108, 108, 32, 49, 32, 48, 32, 48] := rfl
  rw [q1, q2, k_h5, k_h9]
  trivial
  refine w_mulS (by decide +kernel) ?_
  rw [q3]
  trivial
  have q4 : txD ([104, 105, 103, 104, 32, 57] ++ [10, 119, 97, 108, 108, 32, 49, 32, 48, 32, 48, 10, 119, 97, 108, 108, 32, 49, 32, 48, 32, 48, 10, 119, 97, 108, 108, 32, 49, 32, 48, 32, 48, 10, 119, 97, 108, 108, 32, 49, 32, 48, 32, 48] ++ [10, 101, 110, 100, 32, 57]) = txD bad9 := rfl
  rw [q4]
  trivial
  refine WSF_inv (fun _ v S' => (∃ y1 y2 y3 y4 y5 y6 y7 y8 y9 : Option D, v = [some (script ns), y1, y2, y3, y4, y5, y6, y7, y8, y9])) (fun _ => rfl) _ 0 _ _ (fun i d env S5 hd hinv => ?_) ⟨_, _, _, _, _, _, _, _, _, rfl⟩ (fun v S5 hv => ?_)
  · obtain ⟨y1, y2, y3, y4, y5, y6, y7, y8, y9, rfl⟩ := hinv
    have hm := List.mem_of_getElem? hd
    have hb : r_read_hall [d] = raise "InvalidText" := by
      simp only [List.cons_append, List.nil_append, List.mem_cons, List.not_mem_nil, or_false] at hm
      rcases hm with rfl | rfl | rfl | rfl | rfl | rfl | rfl | rfl | rfl | rfl
      · exact bad_0
      · exact bad_1
      · exact bad_2
      · exact bad_3
      · exact bad_4
      · exact bad_5
      · exact bad_6
      · exact bad_7
      · exact bad_8
      · exact bad_9
    refine ⟨_, rfl, WS_mono (lw_4 hb) (fun v S5 hv => ?_) fun _ _ h => h⟩
    obtain ⟨rfl, _⟩ := hv
    exact ⟨_, _, _, _, _, _, _, _, _, rfl⟩
  obtain ⟨y1, y2, y3, y4, y5, y6, y7, y8, y9, rfl⟩ := hv
  trivial
  have o1 : okD 64 (.tuple [.int 5, .tuple [], .int 5]) = true := okD_hD (n := 61) h5
  have o2 : okD 64 (.tuple [.int 9, .tuple [.tuple [.int 8, .int 0, .int 9]], .int 9]) = true := okD_hD (n := 61) h9
  have s1 : eqD (.tuple [.int 5, .tuple [], .int 5]) (.tuple [.int 5, .tuple [], .int 5]) = true := eqD_self o1
  have s2 : eqD (.tuple [.int 9, .tuple [.tuple [.int 8, .int 0, .int 9]], .int 9]) (.tuple [.int 9, .tuple [.tuple [.int 8, .int 0, .int 9]], .int 9]) = true := eqD_self o2
  have r1 : r_read_hall [txD (TT h5)] = pure (.tuple [.int 5, .tuple [], .int 5]) := read_h h5 h5_ok (by decide +kernel)
  have r2 : r_read_hall [txD (TT h9)] = pure (.tuple [.int 9, .tuple [.tuple [.int 8, .int 0, .int 9]], .int 9]) := read_h h9 h9_ok (by decide +kernel)
  refine w_eq r1 ?_
  trivial
  rw [s1]
  trivial
  refine w_eq r2 ?_
  trivial
  rw [s2]
  trivial
theorem plain (ns : List Int) (hl : ns.length ≤ 63) : ∃ S, r_law [script ns] [] = .ok (.bool true) S := by
  obtain ⟨a, S', e, h⟩ := W_out (plain0 ns hl)
  subst h
  exact ⟨S', e⟩
end Z
end
section
set_option maxHeartbeats 0
namespace Z
open PySem PySem.Spec PyProof.Rows L2
def dd (x : Str) (i : Nat) : He.DefD := ⟨(x, none), x, x, defArgs (top i), defBody (top i), defScope (top i), [], []⟩
def fnL : List He.DefD := [dd "_law_cell" 24, dd "_law_draws" 25, dd "_law_bag" 26, dd "_law_take" 27, dd "_law_choice" 28, dd "_law_hall" 29, dd "_law_text" 32, dd "_law_bent" 35, dd "is_row" 14, dd "is_whole" 13, dd "is_wall" 15, dd "is_hall" 16, dd "_law_integer" 33, dd "_law_read" 34, dd "_law_named_error" 30, dd "_law_told" 31, dd "as_text" 19, dd "number_in" 21, dd "read_hall" 22, dd "need_hall" 17, dd "hall_text" 20, dd "law" 36]
def faL : List He.Fa := [.glo "_law_cell", .glo "_law_draws", .glo "_law_bag", .glo "_law_take", .glo "_law_choice", .glo "_law_hall", .glo "_law_text", .glo "_law_bent", .glo "is_row", .glo "is_whole", .glo "is_wall", .glo "is_hall", .glo "_law_integer", .glo "_law_read", .glo "_law_named_error", .glo "_law_told", .glo "as_text", .glo "number_in", .glo "read_hall", .glo "need_hall", .glo "hall_text", .glo "law", .free "ValueError", .free "all", .free "bool", .free "int", .free "isinstance", .free "len", .free "list", .free "max", .free "min", .free "range", .free "sorted", .free "str", .free "tuple", .free "zip", .glo "AimError", .glo "InvalidHall", .glo "InvalidRay", .glo "InvalidWord", .glo "InvalidWall", .glo "InvalidPaper", .glo "InvalidFacts", .glo "InvalidDeed", .glo "InvalidText", .glo "Unlike", .glo "NothingToUndo", .exc "InvalidHall", .exc "InvalidRay", .exc "InvalidWord", .exc "InvalidWall", .exc "InvalidPaper", .exc "InvalidFacts", .exc "InvalidDeed", .exc "InvalidText", .exc "Unlike", .exc "NothingToUndo"]
def errL : List Str := ["InvalidHall", "InvalidRay", "InvalidWord", "InvalidWall", "InvalidPaper", "InvalidFacts", "InvalidDeed", "InvalidText", "Unlike", "NothingToUndo"]
def looseL : List Str := (["AimError", "InvalidHall", "InvalidRay", "InvalidWord", "InvalidWall", "InvalidPaper", "InvalidFacts", "InvalidDeed", "InvalidText", "Unlike", "NothingToUndo", "is_whole", "is_row", "is_wall", "is_hall", "need_hall", "as_text", "hall_text", "number_in", "read_hall", "_law_cell", "_law_draws", "_law_bag", "_law_take", "_law_choice", "_law_hall", "_law_named_error", "_law_told", "_law_text", "_law_integer"] : List Str) ++ (["_law_read", "_law_bent"] : List Str)
def exT (K : PySem.W.Frag) : Bool := errsB errL K
theorem exT_ok {K : PySem.W.Frag} (h : exT K = true) : errsB errL K = true := h
def exL (K : PySem.W.Frag) : Bool := exT K
abbrev RL : PySem.W.OpenRow := PySem.W.OpenLaw.row PySem.Challenge.rw_anyaim_k15_texts_of_halls
abbrev hkL : PySem.W.Hook := He.hookX 4 faL fnL [] [("law", none)] exL
def obL (s : PySem.W.SharedT) : He.AlX := He.obsX 4 faL fnL [] [("law", none)] exL (HandSHeadRun.getT s)
theorem obL_eq (s : PySem.W.SharedT) : obL s = hkL.obs s.abs := He.obsX_eq (HandSHeadRun.getT_eq s)
theorem runL (w : World) : HandSHeadRun.RunEq RL (PySem.W.view RL.prog [36]) hkL obL 6000 looseL w := by
  intro os
  kernel_rfl
theorem gfL {K : PySem.W.Frag} {h : Heap} {mg : Str → Option Value} (X : K.In h) (G : h.Ns mainGlobals mg) (c : He.SaysD faL fnL K) (ex0 : exT K = true) : GF K mg where
  z_ValueError := He.free_ok X G (c.fact 22 (f := .free "ValueError") rfl)
  z_all := He.free_ok X G (c.fact 23 (f := .free "all") rfl)
  z_bool := He.free_ok X G (c.fact 24 (f := .free "bool") rfl)
  z_int := He.free_ok X G (c.fact 25 (f := .free "int") rfl)
  z_isinstance := He.free_ok X G (c.fact 26 (f := .free "isinstance") rfl)
  z_len := He.free_ok X G (c.fact 27 (f := .free "len") rfl)
  z_list := He.free_ok X G (c.fact 28 (f := .free "list") rfl)
  z_max := He.free_ok X G (c.fact 29 (f := .free "max") rfl)
  z_min := He.free_ok X G (c.fact 30 (f := .free "min") rfl)
  z_range := He.free_ok X G (c.fact 31 (f := .free "range") rfl)
  z_sorted := He.free_ok X G (c.fact 32 (f := .free "sorted") rfl)
  z_str := He.free_ok X G (c.fact 33 (f := .free "str") rfl)
  z_tuple := He.free_ok X G (c.fact 34 (f := .free "tuple") rfl)
  z_zip := He.free_ok X G (c.fact 35 (f := .free "zip") rfl)
  x_InvalidHall := ex_of (He.glo_ok X G (c.fact 37 (f := .glo "InvalidHall") rfl)) (c.fact 47 (f := .exc "InvalidHall") rfl)
  x_InvalidRay := ex_of (He.glo_ok X G (c.fact 38 (f := .glo "InvalidRay") rfl)) (c.fact 48 (f := .exc "InvalidRay") rfl)
  x_InvalidWord := ex_of (He.glo_ok X G (c.fact 39 (f := .glo "InvalidWord") rfl)) (c.fact 49 (f := .exc "InvalidWord") rfl)
  x_InvalidWall := ex_of (He.glo_ok X G (c.fact 40 (f := .glo "InvalidWall") rfl)) (c.fact 50 (f := .exc "InvalidWall") rfl)
  x_InvalidPaper := ex_of (He.glo_ok X G (c.fact 41 (f := .glo "InvalidPaper") rfl)) (c.fact 51 (f := .exc "InvalidPaper") rfl)
  x_InvalidFacts := ex_of (He.glo_ok X G (c.fact 42 (f := .glo "InvalidFacts") rfl)) (c.fact 52 (f := .exc "InvalidFacts") rfl)
  x_InvalidDeed := ex_of (He.glo_ok X G (c.fact 43 (f := .glo "InvalidDeed") rfl)) (c.fact 53 (f := .exc "InvalidDeed") rfl)
  x_InvalidText := ex_of (He.glo_ok X G (c.fact 44 (f := .glo "InvalidText") rfl)) (c.fact 54 (f := .exc "InvalidText") rfl)
  x_Unlike := ex_of (He.glo_ok X G (c.fact 45 (f := .glo "Unlike") rfl)) (c.fact 55 (f := .exc "Unlike") rfl)
  x_NothingToUndo := ex_of (He.glo_ok X G (c.fact 46 (f := .glo "NothingToUndo") rfl)) (c.fact 56 (f := .exc "NothingToUndo") rfl)
  c_AimError := ⟨_, He.glo_ok X G (c.fact 36 (f := .glo "AimError") rfl)⟩
  ec := errs_of (cs := errL) (exT_ok ex0) (by
    intro x hx
    simp only [errL, List.mem_cons, List.not_mem_nil, or_false] at hx
    rcases hx with rfl | rfl | rfl | rfl | rfl | rfl | rfl | rfl | rfl | rfl
    · exact He.glo_ok X G (c.fact 37 (f := .glo "InvalidHall") rfl)
    · exact He.glo_ok X G (c.fact 38 (f := .glo "InvalidRay") rfl)
    · exact He.glo_ok X G (c.fact 39 (f := .glo "InvalidWord") rfl)
    · exact He.glo_ok X G (c.fact 40 (f := .glo "InvalidWall") rfl)
    · exact He.glo_ok X G (c.fact 41 (f := .glo "InvalidPaper") rfl)
    · exact He.glo_ok X G (c.fact 42 (f := .glo "InvalidFacts") rfl)
    · exact He.glo_ok X G (c.fact 43 (f := .glo "InvalidDeed") rfl)
    · exact He.glo_ok X G (c.fact 44 (f := .glo "InvalidText") rfl)
    · exact He.glo_ok X G (c.fact 45 (f := .glo "Unlike") rfl)
    · exact He.glo_ok X G (c.fact 46 (f := .glo "NothingToUndo") rfl)) (He.glo_ok X G (c.fact 36 (f := .glo "AimError") rfl))
  f__law_cell := defok_of (He.glo_ok X G (c.fact 0 (f := .glo "_law_cell") rfl)) (c.def_ 0 (d := dd "_law_cell" 24) rfl) fun _ _ _ _ _ _ us hl => match us, hl with | [_, _], _ => rfl
  f__law_draws := defok_of (He.glo_ok X G (c.fact 1 (f := .glo "_law_draws") rfl)) (c.def_ 1 (d := dd "_law_draws" 25) rfl) fun _ _ _ _ _ _ us hl => match us, hl with | [_, _, _, _], _ => rfl
  f__law_bag := defok_of (He.glo_ok X G (c.fact 2 (f := .glo "_law_bag") rfl)) (c.def_ 2 (d := dd "_law_bag" 26) rfl) fun _ _ _ _ _ _ us hl => match us, hl with | [_, _], _ => rfl
  f__law_take := defok_of (He.glo_ok X G (c.fact 3 (f := .glo "_law_take") rfl)) (c.def_ 3 (d := dd "_law_take" 27) rfl) fun _ _ _ _ _ _ us hl => match us, hl with | [_, _], _ => rfl
  f__law_choice := defok_of (He.glo_ok X G (c.fact 4 (f := .glo "_law_choice") rfl)) (c.def_ 4 (d := dd "_law_choice" 28) rfl) fun _ _ _ _ _ _ us hl => match us, hl with | [_, _], _ => rfl
  f__law_hall := defok_of (He.glo_ok X G (c.fact 5 (f := .glo "_law_hall") rfl)) (c.def_ 5 (d := dd "_law_hall" 29) rfl) fun _ _ _ _ _ _ us hl => match us, hl with | [_, _], _ => rfl
  f__law_text := defok_of (He.glo_ok X G (c.fact 6 (f := .glo "_law_text") rfl)) (c.def_ 6 (d := dd "_law_text" 32) rfl) fun _ _ _ _ _ _ us hl => match us, hl with | [_], _ => rfl
  f__law_bent := defok_of (He.glo_ok X G (c.fact 7 (f := .glo "_law_bent") rfl)) (c.def_ 7 (d := dd "_law_bent" 35) rfl) fun _ _ _ _ _ _ us hl => match us, hl with | [_, _], _ => rfl
  f_is_row := defok_of (He.glo_ok X G (c.fact 8 (f := .glo "is_row") rfl)) (c.def_ 8 (d := dd "is_row" 14) rfl) fun _ _ _ _ _ _ us hl => match us, hl with | [_, _, _], _ => rfl
  f_is_whole := defok_of (He.glo_ok X G (c.fact 9 (f := .glo "is_whole") rfl)) (c.def_ 9 (d := dd "is_whole" 13) rfl) fun _ _ _ _ _ _ us hl => match us, hl with | [_, _, _], _ => rfl
  f_is_wall := defok_of (He.glo_ok X G (c.fact 10 (f := .glo "is_wall") rfl)) (c.def_ 10 (d := dd "is_wall" 15) rfl) fun _ _ _ _ _ _ us hl => match us, hl with | [_, _, _], _ => rfl
  f_is_hall := defok_of (He.glo_ok X G (c.fact 11 (f := .glo "is_hall") rfl)) (c.def_ 11 (d := dd "is_hall" 16) rfl) fun _ _ _ _ _ _ us hl => match us, hl with | [_], _ => rfl
  f__law_integer := defok_of (He.glo_ok X G (c.fact 12 (f := .glo "_law_integer") rfl)) (c.def_ 12 (d := dd "_law_integer" 33) rfl) fun _ _ _ _ _ _ us hl => match us, hl with | [_], _ => rfl
  f__law_read := defok_of (He.glo_ok X G (c.fact 13 (f := .glo "_law_read") rfl)) (c.def_ 13 (d := dd "_law_read" 34) rfl) fun _ _ _ _ _ _ us hl => match us, hl with | [_], _ => rfl
  f__law_named_error := defok_of (He.glo_ok X G (c.fact 14 (f := .glo "_law_named_error") rfl)) (c.def_ 14 (d := dd "_law_named_error" 30) rfl) fun _ _ _ _ _ _ us hl => match us, hl with | [_], _ => rfl
  f__law_told := defok_of (He.glo_ok X G (c.fact 15 (f := .glo "_law_told") rfl)) (c.def_ 15 (d := dd "_law_told" 31) rfl) fun _ _ _ _ _ _ us hl => match us, hl with | [_], _ => rfl
  f_as_text := defok_of (He.glo_ok X G (c.fact 16 (f := .glo "as_text") rfl)) (c.def_ 16 (d := dd "as_text" 19) rfl) fun _ _ _ _ _ _ us hl => match us, hl with | [_], _ => rfl
  f_number_in := defok_of (He.glo_ok X G (c.fact 17 (f := .glo "number_in") rfl)) (c.def_ 17 (d := dd "number_in" 21) rfl) fun _ _ _ _ _ _ us hl => match us, hl with | [_], _ => rfl
  f_read_hall := defok_of (He.glo_ok X G (c.fact 18 (f := .glo "read_hall") rfl)) (c.def_ 18 (d := dd "read_hall" 22) rfl) fun _ _ _ _ _ _ us hl => match us, hl with | [_], _ => rfl
  f_need_hall := defok_of (He.glo_ok X G (c.fact 19 (f := .glo "need_hall") rfl)) (c.def_ 19 (d := dd "need_hall" 17) rfl) fun _ _ _ _ _ _ us hl => match us, hl with | [_], _ => rfl
  f_hall_text := defok_of (He.glo_ok X G (c.fact 20 (f := .glo "hall_text") rfl)) (c.def_ 20 (d := dd "hall_text" 20) rfl) fun _ _ _ _ _ _ us hl => match us, hl with | [_], _ => rfl
  f_law := defok_of (He.glo_ok X G (c.fact 21 (f := .glo "law") rfl)) (c.def_ 21 (d := dd "law" 36) rfl) fun _ _ _ _ _ _ us hl => match us, hl with | [_], _ => rfl
theorem lawL {w : World} {K : PySem.W.Frag} {h : Heap} {mg : Str → Option Value} {fa : Addr} (X : K.In h) (G : h.Ns mainGlobals mg) (hmg : mg ("law" : Str) = some (.ref fa)) (c : He.SaysX faL fnL [] [("law", none)] exL w h K) : LamX.LawAtS PySem.Challenge.rw_anyaim_k15_texts_of_halls w K (L2N.CX PySem.Challenge.rw_anyaim_k15_texts_of_halls.prog w) 8 63 "_law_script" mg fa h := by
  have gf := gfL X G c.t.d c.more
  have hf := He.glo_ok X G (c.t.d.fact 21 (f := .glo "law") rfl)
  obtain rfl : fa = He.ga K "law" := by rw [hf] at hmg; cases hmg; rfl
  obtain ⟨fd, F⟩ := c.t.d.def_ 21 (d := dd "law" 36) rfl
  have F : FunD K "law" "law" (defArgs (top 36)) (defBody (top 36)) (defScope (top 36)) [] [] (He.ga K "law") fd := F
  have hcd : fd.code = .ref (He.cT K ("law", none)).1 := by
    obtain ⟨oc, od, dV, kV, doc, pm, an, cdv, ct, osl, rfl, lk, hcd, _, _⟩ := F.ex
    obtain ⟨c', rfl⟩ := He.codeIn_ref hcd
    have e : He.codeOf K ("law", none) = c' := He.codeOf_eq (p := ("law", none)) lk rfl
    show Value.ref c' = .ref (He.codeOf K ("law", none))
    rw [e]
  refine law_at (q := (("law" : Str) ++ ".<locals>.") ++ "<lambda>") (cc := (He.cT K ("law", none)).1) (Pt := (He.cT K ("law", none)).2) (g := r_law) (st := top 36) X F (fun _ _ _ _ _ _ us hl => match us, hl with | [_], _ => rfl) (c.empty _ (by simp)) (c.out _ (by simp)) (c.hd _ (by simp)) hcd (fun base _ TB => ?_) plain
  exact F_law gf (fun_of F) hcd TB (by simp [tbOf]) (by simp [tbOf])
end Z
open PySem PySem.W PySem.Calls PyProof.Rows
theorem PySem.Challenge.cw_anyaim_k15_texts_of_halls_holds : PySem.Challenge.rw_anyaim_k15_texts_of_halls.Holds := by
  w_on; o_law
  refine HandSHeadRun.head_any (r := OpenLaw.row PySem.Challenge.rw_anyaim_k15_texts_of_halls) (q := view (OpenLaw.row PySem.Challenge.rw_anyaim_k15_texts_of_halls).prog [36]) (H := Z.hkL) (ob := Z.obL) (M := 6000) (loose := Z.looseL) (d := HandSHeadRun.topDef (OpenLaw.row PySem.Challenge.rw_anyaim_k15_texts_of_halls).prog 36) (kwd := []) Z.obL_eq
    (by kernel_rfl) (fun s => by kernel_rfl) Z.runL (by kernel_rfl) (by kernel_rfl) (by kernel_rfl) (by rfl) (by first | assumption | decide +kernel) (by decide +kernel) ⟨rfl, rfl, rfl, rfl, rfl, by decide +kernel⟩ ?hw ?hc
  case hw => w_witness2
  case hc =>
    refine LamX.walk_ofTsE (l := PySem.Challenge.rw_anyaim_k15_texts_of_halls) (n := 63) (k := 8) (x := "_law_script") (CX := fun w => L2N.CX PySem.Challenge.rw_anyaim_k15_texts_of_halls.prog w) rfl (by decide) (by kernel_rfl) ⟨rfl, by decide, by decide⟩ ?F (fun _ _ _ _ _ z => Z.cx_none z)
    intro w mg fa h Y G hmg0
    obtain ⟨K, KX, c⟩ := Y
    have hmg : mg ("law" : PySem.Str) = some (.ref fa) := by
      have e : (HandSHeadRun.topDef (OpenLaw.row PySem.Challenge.rw_anyaim_k15_texts_of_halls).prog 36).name = ("law" : PySem.Str) := by kernel_rfl
      rw [← e]
      exact hmg0
    exact ⟨K, KX, Z.lawL KX G hmg c⟩
end
