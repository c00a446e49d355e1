import PyProof.Rows.All
import Wide.All
import OpenK.AllK
import Wide.FinOn
import HandS.ForSpec
import HandS.ForMost
import HandS.IsInst
import HandS.TupAny
import HandS.Zip
import HandS.Style
import HandS.Wide
import HandS.Lambda
import PyProof.Rows.IntBool
import HandS.Deep
import KE.SortData
import HandS.ExcCtx
import HandS.HotCalls
import HandS.ExcIs
import HandS.Nested
import HandS.TupMul
import HandS.SortInts
import HandS.RevTup
import KE.KRevSl
import HandS.Defaults
import HandS.Head0
import HandS.Head1
import HandS.Head2
import HandS.HeadEnd
import HandS.HeadHook1
import HandS.HeadHook2
import HandS.HeadHook3
import HandS.HeadHook4
import HandS.HeadWalk
import HandS.EndTab
import HandS.NestedK
import PySem.Challenge.RW_anyaim_k02_shots_of_told_rays
set_option Elab.async false
set_option linter.all false
set_option maxRecDepth 100000
section
set_option maxHeartbeats 4000000
/-! Pure data over the hand layer: values D, a store of lists that change, programs as functions. -/
namespace Z
open PySem PySem.Spec PyProof.Rows L2

/-- values told by what they are worth; cell n: the n-th changing object; fn: a def of the module -/
inductive D where
  | none | bool (b : Bool) | int (i : Int) | str (s : Str) | list (xs : List D) | tuple (xs : List D) | cell (n : Nat) | fn (x : Str) | frz (xs : List D) | adr (a : Addr)
deriving Inhabited

mutual
/-- nothing that changes is within -/
def fixD : D → Bool
  | .list xs => fixDs xs
  | .tuple xs => fixDs xs
  | .frz xs => fixDs xs
  | .cell _ => false
  | _ => true
def fixDs : List D → Bool
  | [] => true
  | x :: xs => fixD x && fixDs xs
end
inductive Cell where
  | lst (xs : List D)
abbrev Store := List Cell

inductive Res (α : Type) where
  | ok (a : α) (S : Store) | err (c : Str) (S : Store) | no
def M (α : Type) := Store → Res α
@[reducible] def M.bind' {α β : Type} (m : M α) (f : α → M β) : M β := fun S => match m S with
  | .ok a S' => f a S'
  | .err c S' => .err c S'
  | .no => .no
instance : Monad M where
  pure a := fun S => .ok a S
  bind := M.bind'
def no {α : Type} : M α := fun _ => .no
def raise {α : Type} (c : Str) : M α := fun S => .err c S
def ofO {α : Type} : Option α → M α
  | some a => pure a
  | .none => no
@[simp] theorem pure_ap {α : Type} (a : α) (S : Store) : (pure a : M α) S = .ok a S := rfl
@[simp] theorem no_ap {α : Type} (S : Store) : (no : M α) S = .no := rfl
@[simp] theorem raise_ap {α : Type} (c : Str) (S : Store) : (raise c : M α) S = .err c S := rfl
@[simp] theorem pure_bd {α β : Type} (a : α) (f : α → M β) : (pure a >>= f) = f a := rfl
@[simp] theorem no_bd {α β : Type} (f : α → M β) : ((no : M α) >>= f) = no := rfl
@[simp] theorem raise_bd {α β : Type} (c : Str) (f : α → M β) : ((raise c : M α) >>= f) = raise c := rfl
theorem bd_ap {α β : Type} (m : M α) (f : α → M β) (S : Store) : (m >>= f) S = match m S with
  | .ok a S' => f a S'
  | .err c S' => .err c S'
  | .no => .no := rfl
@[simp] theorem bd_bd {α β γ : Type} (m : M α) (f : α → M β) (g : β → M γ) : ((m >>= f) >>= g) = (m >>= fun a => f a >>= g) := by
  funext S
  simp only [bd_ap]
  cases m S <;> rfl
@[simp] theorem bd_pure {α : Type} (m : M α) : (m >>= fun a => pure a) = m := by
  funext S
  simp only [bd_ap]
  cases m S <;> rfl
@[simp] theorem ofO_some {α : Type} (a : α) : ofO (some a) = pure a := rfl
@[simp] theorem ofO_none {α : Type} : ofO (.none : Option α) = no := rfl
theorem bd_if {α β : Type} (c : Prop) [Decidable c] (a b : M α) (f : α → M β) : ((if c then a else b) >>= f) = if c then a >>= f else b >>= f := by
  split <;> rfl

/-! ### the heap without the cells and the tables of code -/
def noTbl : HO → Bool
  | .tbl _ => false
  | _ => true
theorem noTbl_of {o : HO} (h : ∀ ps, o ≠ .tbl ps) : noTbl o = true := by
  cases o <;> first | rfl | exact absurd rfl (h _)
theorem noTbl_ne {o : HO} (h : noTbl o = true) : ∀ ps, o ≠ .tbl ps := fun ps e => by
  subst e
  cases h
/-- what is owned: the cells, and lists that are being made -/
structure Ow where
  cs : List Addr
  pv : List Addr
def Ow.add (O : Ow) (p : Addr) : Ow := ⟨O.cs ++ [p], O.pv⟩
def hide (O : Ow) (H : Hp) : Hp := fun a => if a ∈ O.cs ∨ a ∈ O.pv then Option.none else (H a).bind fun o => if noTbl o = true then some o else Option.none
theorem hide_le {O : Ow} {H : Hp} {a : Addr} {o : HO} (h : hide O H a = some o) : ¬ (a ∈ O.cs ∨ a ∈ O.pv) ∧ H a = some o ∧ noTbl o = true := by
  unfold hide at h
  split at h
  · cases h
  · cases e : H a with
    | none => rw [e] at h; cases h
    | some u =>
      rw [e] at h
      simp only [Option.bind_some] at h
      split at h
      · cases h
        exact ⟨by assumption, rfl, by assumption⟩
      · cases h
theorem hide_of {O : Ow} {H : Hp} {a : Addr} {o : HO} (n : ¬ (a ∈ O.cs ∨ a ∈ O.pv)) (h : H a = some o) (t : noTbl o = true := by rfl) : hide O H a = some o := by
  unfold hide
  rw [if_neg n, h]
  simp [t]
structure Le (O : Ow) (H : Hp) (O' : Ow) (H' : Hp) : Prop where
  pre : ∃ r, O'.cs = O.cs ++ r
  pv : O'.pv = O.pv
  same : Same (hide O H) (hide O' H')
  keep : ∀ p ∈ O.pv, ∀ vs, H p = some (.lst vs) → H' p = some (.lst vs)
/-- what values lean on -/
structure Lw (O : Ow) (H : Hp) (O' : Ow) (H' : Hp) : Prop where
  pre : ∃ r, O'.cs = O.cs ++ r
  same : Same (hide O H) (hide O' H')
theorem Le.w {O O' : Ow} {H H' : Hp} (l : Le O H O' H') : Lw O H O' H' := ⟨l.pre, l.same⟩
theorem Le.refl {O : Ow} {H : Hp} : Le O H O H := ⟨⟨[], by simp⟩, rfl, Same.refl _, fun _ _ _ h => h⟩
theorem Le.trans {O O1 O2 : Ow} {H H1 H2 : Hp} (a : Le O H O1 H1) (b : Le O1 H1 O2 H2) : Le O H O2 H2 := by
  obtain ⟨⟨r, e⟩, p, s, k⟩ := a
  obtain ⟨⟨r', e'⟩, p', s', k'⟩ := b
  exact ⟨⟨r ++ r', by rw [e', e]; simp⟩, p'.trans p, s.trans s', fun q hq vs h => k' q (by rw [p]; exact hq) vs (k q hq vs h)⟩
/-- the same cells, more objects, the tables longer -/
theorem Le.ext {O : Ow} {H H' : Hp} (s : LamX.ExtN H H') : Le O H O H' := ⟨⟨[], by simp⟩, rfl, fun a o h => by
  obtain ⟨n, h, t⟩ := hide_le h
  exact hide_of n (s _ _ h (noTbl_ne t)) t, fun p _ vs h => s _ _ h (by intro ps z; cases z)⟩
theorem Le.same' {O : Ow} {H H' : Hp} (s : Same H H') : Le O H O H' := Le.ext (LamX.ExtN.of s)
theorem same_upd {H : Hp} {p : Addr} {o : HO} (h : H p = Option.none) : Same H (upd H p o) := fun b x e => by
  rw [upd_ne (ne_of_none e h)]
  exact e
theorem Le.new {O : Ow} {H : Hp} {p : Addr} {o : HO} (h : H p = Option.none) : Le O H O (upd H p o) := Le.same' (same_upd h)
/-- a cell is written -/
theorem Le.put {O : Ow} {H : Hp} {a : Addr} {o : HO} (h : a ∈ O.cs) (n : a ∉ O.pv) : Le O H O (upd H a o) := ⟨⟨[], by simp⟩, rfl, fun b x e => by
  obtain ⟨m, e, t⟩ := hide_le e
  refine hide_of m ?_ t
  rw [upd_ne (fun z => m (.inl (by rw [z]; exact h)))]
  exact e, fun p hp vs e => by
    rw [upd_ne (fun z => n (by rw [← z]; exact hp))]
    exact e⟩
/-- a new cell -/
theorem Le.grow {O : Ow} {H : Hp} {p : Addr} {o : HO} (h : H p = Option.none) : Le O H (O.add p) (upd H p o) := ⟨⟨[p], rfl⟩, rfl, fun b x e => by
  obtain ⟨n, e, t⟩ := hide_le e
  have ne := ne_of_none e h
  refine hide_of ?_ ?_ t
  · rintro (z | z)
    · rcases List.mem_append.mp z with z | z
      · exact n (.inl z)
      · exact ne (by simpa using z)
    · exact n (.inr z)
  · rw [upd_ne ne]
    exact e, fun q _ vs e => by
      rw [upd_ne (ne_of_none e h)]
      exact e⟩

/-! ### what a value is worth -/
section
variable (K : PySem.W.Frag) (mg : Str → Option Value)
mutual
inductive Rp (O : List Addr) (G : Hp) : V → D → Prop
  | non : Rp O G .non .none
  | bl (b : Bool) : Rp O G (.bl b) (.bool b)
  | int (i : Int) : Rp O G (.int i) (.int i)
  | str (x : Str) : Rp O G (.str x) (.str x)
  | lst {a : Addr} {xs : List V} {ds : List D} : G a = some (.lst xs) → Rps O G xs ds → Rp O G (.ref a) (.list ds)
  | frz {a : Addr} {xs : List V} {ds : List D} : SqL K G a xs → Rps O G xs ds → Rp O G (.ref a) (.frz ds)
  | tup {a : Addr} {xs : List V} {ds : List D} : SqT K G a xs → Rps O G xs ds → Rp O G (.ref a) (.tuple ds)
  | cell {a : Addr} {n : Nat} : O[n]? = some a → Rp O G (.ref a) (.cell n)
  | fn {f : Addr} {x : Str} : mg x = some (.ref f) → Rp O G (.ref f) (.fn x)
  | adr (a : Addr) : Rp O G (.ref a) (.adr a)
inductive Rps (O : List Addr) (G : Hp) : List V → List D → Prop
  | nil : Rps O G [] []
  | cons {v : V} {vs : List V} {d : D} {ds : List D} : Rp O G v d → Rps O G vs ds → Rps O G (v :: vs) (d :: ds)
end
end
section
variable {K : PySem.W.Frag} {mg : Str → Option Value} {O O' : List Addr} {G G' : Hp}
theorem Same.seqT {H H' : Hp} {a : Addr} {xs : List V} (e : Same H H') (h : SqT K H a xs) : SqT K H' a xs := by
  rcases h with (h | ⟨o, h⟩) | h
  · exact .inl (.inl (e _ _ h))
  · exact .inl (.inr ⟨o, e _ _ h⟩)
  · exact .inr h
theorem pre_get {r : List Addr} {n : Nat} {a : Addr} (h : O[n]? = some a) : (O ++ r)[n]? = some a := by
  have := (List.getElem?_eq_some_iff.mp h).1
  rw [List.getElem?_append_left this]
  exact h
mutual
theorem Rp.mono (p : ∃ r, O' = O ++ r) (s : Same G G') : ∀ {d : D} {v : V}, Rp K mg O G v d → Rp K mg O' G' v d
  | _, _, .non => .non
  | _, _, .bl b => .bl b
  | _, _, .int i => .int i
  | _, _, .str x => .str x
  | _, _, .lst h t => .lst (s _ _ h) (Rps.mono p s t)
  | _, _, .frz h t => .frz (s.seq h) (Rps.mono p s t)
  | _, _, .tup h t => .tup (Same.seqT s h) (Rps.mono p s t)
  | _, _, .cell h => .cell (by obtain ⟨r, rfl⟩ := p; exact pre_get h)
  | _, _, .fn h => .fn h
  | _, _, .adr a => .adr a
theorem Rps.mono (p : ∃ r, O' = O ++ r) (s : Same G G') : ∀ {ds : List D} {vs : List V}, Rps K mg O G vs ds → Rps K mg O' G' vs ds
  | _, _, .nil => .nil
  | _, _, .cons h t => .cons (Rp.mono p s h) (Rps.mono p s t)
end
theorem Rps.length : ∀ {ds : List D} {vs : List V}, Rps K mg O G vs ds → vs.length = ds.length
  | _, _, .nil => rfl
  | _, _, .cons _ t => by simp [Rps.length t]
theorem Rps.get : ∀ {ds : List D} {vs : List V} {i : Nat} {d : D}, Rps K mg O G vs ds → ds[i]? = some d → ∃ v, vs[i]? = some v ∧ Rp K mg O G v d
  | _, _, _, _, .nil, e => by simp at e
  | _, _, 0, _, .cons r _, e => by simp at e; subst e; exact ⟨_, rfl, r⟩
  | _, _, i + 1, d, .cons _ t, e => by
    obtain ⟨u, h1, h2⟩ := Rps.get (i := i) (d := d) t (by simpa using e)
    exact ⟨u, by simpa using h1, h2⟩
theorem Rps.app : ∀ {ds es : List D} {vs us : List V}, Rps K mg O G vs ds → Rps K mg O G us es → Rps K mg O G (vs ++ us) (ds ++ es)
  | _, _, _, _, .nil, s => s
  | _, _, _, _, .cons r t, s => .cons r (Rps.app t s)
theorem Rps.take : ∀ {ds : List D} {vs : List V} (n : Nat), Rps K mg O G vs ds → Rps K mg O G (vs.take n) (ds.take n)
  | _, _, 0, _ => .nil
  | _, _, _ + 1, .nil => .nil
  | _, _, n + 1, .cons r t => .cons r (Rps.take n t)
theorem Rps.drop : ∀ {ds : List D} {vs : List V} (n : Nat), Rps K mg O G vs ds → Rps K mg O G (vs.drop n) (ds.drop n)
  | _, _, 0, r => r
  | _, _, _ + 1, .nil => .nil
  | _, _, n + 1, .cons _ t => Rps.drop n t
theorem Rps.rev : ∀ {ds : List D} {vs : List V}, Rps K mg O G vs ds → Rps K mg O G vs.reverse ds.reverse
  | _, _, .nil => .nil
  | _, _, .cons r t => by
    simp only [List.reverse_cons]
    exact Rps.app (Rps.rev t) (.cons r .nil)
theorem Rps.erase : ∀ {ds : List D} {vs : List V} (i : Nat), Rps K mg O G vs ds → Rps K mg O G (vs.eraseIdx i) (ds.eraseIdx i)
  | _, _, _, .nil => .nil
  | _, _, 0, .cons _ t => t
  | _, _, i + 1, .cons r t => .cons r (Rps.erase i t)
theorem Rps.setI {v : V} {d : D} (h : Rp K mg O G v d) : ∀ {ds : List D} {vs : List V} (i : Nat), Rps K mg O G vs ds → Rps K mg O G (vs.set i v) (ds.set i d)
  | _, _, _, .nil => .nil
  | _, _, 0, .cons _ t => .cons h t
  | _, _, i + 1, .cons r t => .cons r (Rps.setI h i t)
end

section
variable {K : PySem.W.Frag} {mg : Str → Option Value} {O O' : List Addr} {G : Hp}
mutual
theorem Rp.fix : ∀ {d : D} {v : V}, Rp K mg O G v d → fixD d = true → Rp K mg O' G v d
  | _, _, .non, _ => .non
  | _, _, .bl b, _ => .bl b
  | _, _, .int i, _ => .int i
  | _, _, .str x, _ => .str x
  | _, _, .lst h t, e => .lst h (Rps.fix t (by simpa [fixD] using e))
  | _, _, .frz h t, e => .frz h (Rps.fix t (by simpa [fixD] using e))
  | _, _, .tup h t, e => .tup h (Rps.fix t (by simpa [fixD] using e))
  | _, _, .cell _, e => by simp [fixD] at e
  | _, _, .fn h, _ => .fn h
  | _, _, .adr a, _ => .adr a
theorem Rps.fix : ∀ {ds : List D} {vs : List V}, Rps K mg O G vs ds → fixDs ds = true → Rps K mg O' G vs ds
  | _, _, .nil, _ => .nil
  | _, _, .cons h t, e => by
    rw [fixDs, Bool.and_eq_true] at e
    exact .cons (Rp.fix h e.1) (Rps.fix t e.2)
end
end

/-! ### the names, the cells -/
abbrev Ev := List (Option D)
def REnv (K : PySem.W.Frag) (mg : Str → Option Value) (O : List Addr) (G : Hp) (σ : L2.St) (env : Ev) : Prop :=
  σ.length = env.length ∧ ∀ (i : Nat) (d : D), env[i]? = some (some d) → ∃ v, σ[i]? = some (some v) ∧ Rp K mg O G v d
def CellOk (K : PySem.W.Frag) (mg : Str → Option Value) (O : Ow) (H : Hp) (a : Addr) : Cell → Prop
  | .lst ds => ∃ vs, H a = some (.lst vs) ∧ Rps K mg [] (hide O H) vs ds
/-- tables of code, and what stays true -/
structure Tb where
  tabs : List (Addr × Str)
  inv : Ow → Hp → Prop
  mono : ∀ {O : Ow} {H : Hp} {O' : Ow} {H' : Hp}, Lw O H O' H' → inv O H → inv O' H'
structure SOk (K : PySem.W.Frag) (mg : Str → Option Value) (T : Tb) (O : Ow) (H : Hp) (S : Store) : Prop where
  len : O.cs.length = S.length
  nd : O.cs.Nodup
  cell : ∀ (n : Nat) (a : Addr) (c : Cell), O.cs[n]? = some a → S[n]? = some c → CellOk K mg O H a c
  tabs : LamX.Tabs T.tabs H
  inv : T.inv O H
  own : ∀ p ∈ O.pv, p ∉ O.cs ∧ ∃ vs, H p = some (.lst vs)
section
variable {K : PySem.W.Frag} {mg : Str → Option Value} {T : Tb} {O O' : Ow} {G G' H H' : Hp} {σ : L2.St} {env : Ev} {S : Store}
theorem REnv.mono (h : REnv K mg O.cs (hide O H) σ env) (l : Le O H O' H') : REnv K mg O'.cs (hide O' H') σ env :=
  ⟨h.1, fun i d e => by
    obtain ⟨v, h1, h2⟩ := h.2 i d e
    exact ⟨v, h1, h2.mono l.pre l.same⟩⟩
theorem Rp.le {v : V} {d : D} (h : Rp K mg O.cs (hide O H) v d) (l : Le O H O' H') : Rp K mg O'.cs (hide O' H') v d := h.mono l.pre l.same
theorem Rps.le {v : List V} {d : List D} (h : Rps K mg O.cs (hide O H) v d) (l : Le O H O' H') : Rps K mg O'.cs (hide O' H') v d := h.mono l.pre l.same
theorem Rps.le0 {v : List V} {d : List D} (h : Rps K mg [] (hide O H) v d) (l : Le O H O' H') : Rps K mg [] (hide O' H') v d := h.mono ⟨[], rfl⟩ l.same
theorem REnv.set {i : Nat} {v : V} {d : D} {O : List Addr} (h : REnv K mg O G σ env) (r : Rp K mg O G v d) : REnv K mg O G (σ.set i (some v)) (env.set i (some d)) :=
  ⟨by simp [h.1], fun j e q => by
    by_cases hj : i = j
    · subst hj
      by_cases hl : i < env.length
      · rw [List.getElem?_set_self hl] at q
        cases q
        exact ⟨v, by rw [List.getElem?_set_self (by rw [h.1]; exact hl)], r⟩
      · rw [List.getElem?_eq_none (by simpa using hl)] at q
        cases q
    · rw [List.getElem?_set_ne hj] at q ⊢
      exact h.2 j e q⟩
theorem SOk.at {n : Nat} {a : Addr} (s : SOk K mg T O H S) (h : O.cs[n]? = some a) : ∃ vs, H a = some (.lst vs) := by
  have hs : n < S.length := by rw [← s.len]; exact (List.getElem?_eq_some_iff.mp h).1
  have ca := s.cell n a S[n] h (List.getElem?_eq_getElem hs)
  cases q : S[n] with
  | lst ds =>
    rw [q] at ca
    obtain ⟨vs, z, _⟩ := ca
    exact ⟨vs, z⟩
theorem SOk.ne {p : Addr} (s : SOk K mg T O H S) (h : H p = Option.none) : ¬ (p ∈ O.cs ∨ p ∈ O.pv) := fun m => by
  rcases m with m | m
  · obtain ⟨n, hn, e⟩ := List.getElem_of_mem m
    obtain ⟨vs, z⟩ := s.at (show O.cs[n]? = some p by rw [List.getElem?_eq_getElem hn, e])
    rw [h] at z
    cases z
  · obtain ⟨_, vs, z⟩ := s.own p m
    rw [h] at z
    cases z
theorem SOk.own_ne {n : Nat} {a : Addr} (s : SOk K mg T O H S) (h : O.cs[n]? = some a) : a ∉ O.pv := fun m => (s.own a m).1 (List.mem_of_getElem? h)
theorem SOk.own_new {p : Addr} {o : HO} (s : SOk K mg T O H S) (h : H p = Option.none) : ∀ q ∈ O.pv, q ∉ O.cs ∧ ∃ vs, upd H p o q = some (.lst vs) := fun q hq => by
  obtain ⟨h1, vs, h2⟩ := s.own q hq
  exact ⟨h1, vs, by rw [upd_ne (ne_of_none h2 h)]; exact h2⟩
theorem SOk.new {p : Addr} {o : HO} (s : SOk K mg T O H S) (h : H p = Option.none) : SOk K mg T O (upd H p o) S := by
  have hp := s.ne h
  refine ⟨s.len, s.nd, fun n a c e1 e2 => ?_, s.tabs.ext (same_upd h), T.mono (Le.new h).w s.inv, s.own_new h⟩
  have := s.cell n a c e1 e2
  have hne : a ≠ p := fun z => hp (.inl (by rw [← z]; exact List.mem_of_getElem? e1))
  cases c with
  | lst ds =>
    obtain ⟨vs, z, t⟩ := this
    exact ⟨vs, by rw [upd_ne hne]; exact z, Rps.le0 t (Le.new h)⟩
theorem tabs_upd {T : List (Addr × Str)} {a : Addr} {o : HO} {vs : List V} (t : LamX.Tabs T H) (ea : H a = some (.lst vs)) : LamX.Tabs T (upd H a o) := fun p hp => by
  obtain ⟨ps, h1, h2, h3⟩ := t p hp
  refine ⟨ps, ?_, h2, fun pos cv hc => ?_⟩
  · rw [upd_ne (ne_of h1 ea (by intro z; cases z))]
    exact h1
  · obtain ⟨c, e1, e2⟩ := h3 pos cv hc
    refine ⟨c, e1, ?_⟩
    rw [upd_ne (ne_of e2 ea (by unfold LamX.CodeO; intro z; cases z))]
    exact e2
theorem SOk.put {n : Nat} {a : Addr} {vs : List V} {ds : List D} (s : SOk K mg T O H S) (h : O.cs[n]? = some a) (t : Rps K mg [] (hide O H) vs ds) : SOk K mg T O (upd H a (.lst vs)) (S.set n (.lst ds)) := by
  have hm : a ∈ O.cs := List.mem_of_getElem? h
  have hn := s.own_ne h
  obtain ⟨vs0, ea⟩ := s.at h
  refine ⟨by simp [s.len], s.nd, fun m b c e1 e2 => ?_, tabs_upd s.tabs ea, T.mono (Le.put hm hn).w s.inv, fun q hq => ⟨(s.own q hq).1, ?_⟩⟩
  · by_cases hmn : n = m
    · subst hmn
      rw [h] at e1
      cases e1
      have hl : n < S.length := by rw [← s.len]; exact (List.getElem?_eq_some_iff.mp h).1
      rw [List.getElem?_set_self hl] at e2
      cases e2
      exact ⟨vs, upd_same, Rps.le0 t (Le.put hm hn)⟩
    · rw [List.getElem?_set_ne hmn] at e2
      have hb : b ≠ a := fun z => by
        subst z
        obtain ⟨l1, q1⟩ := List.getElem?_eq_some_iff.mp e1
        obtain ⟨l2, q2⟩ := List.getElem?_eq_some_iff.mp h
        exact hmn ((List.getElem_inj s.nd).mp (q2.trans q1.symm))
      have := s.cell m b c e1 e2
      cases c with
      | lst ds' =>
        obtain ⟨vs', z, t'⟩ := this
        exact ⟨vs', by rw [upd_ne hb]; exact z, Rps.le0 t' (Le.put hm hn)⟩
  · obtain ⟨_, us, z⟩ := s.own q hq
    exact ⟨us, by rw [upd_ne (fun e => hn (by rw [← e]; exact hq))]; exact z⟩
theorem SOk.grow {p : Addr} {vs : List V} {ds : List D} (s : SOk K mg T O H S) (h : H p = Option.none) (t : Rps K mg [] (hide O H) vs ds) : SOk K mg T (O.add p) (upd H p (.lst vs)) (S ++ [.lst ds]) := by
  have hp := s.ne h
  refine ⟨by simp [s.len, Ow.add], ?_, fun m b c e1 e2 => ?_, s.tabs.ext (same_upd h), T.mono (Le.grow h).w s.inv, fun q hq => ⟨?_, (s.own_new h q hq).2⟩⟩
  · show (O.cs ++ [p]).Nodup
    rw [List.nodup_append]
    exact ⟨s.nd, by simp, by simpa using fun a ha e => hp (.inl (by rw [← e]; exact ha))⟩
  · by_cases hm : m < O.cs.length
    · have e1 : O.cs[m]? = some b := by
        have := e1
        rw [Ow.add, List.getElem?_append_left hm] at this
        exact this
      rw [List.getElem?_append_left (by rw [← s.len]; exact hm)] at e2
      have hb : b ≠ p := fun z => hp (.inl (by rw [← z]; exact List.mem_of_getElem? e1))
      have := s.cell m b c e1 e2
      cases c with
      | lst ds' =>
        obtain ⟨vs', z, t'⟩ := this
        exact ⟨vs', by rw [upd_ne hb]; exact z, Rps.le0 t' (Le.grow h)⟩
    · have e1 : ([p] : List Addr)[m - O.cs.length]? = some b := by
        have := e1
        rw [Ow.add, List.getElem?_append_right (by omega)] at this
        exact this
      rw [List.getElem?_append_right (by rw [← s.len]; omega)] at e2
      have : m - O.cs.length = 0 := by
        have := (List.getElem?_eq_some_iff.mp e1).1
        simp at this
        omega
      rw [this] at e1
      rw [← s.len, this] at e2
      simp at e1 e2
      subst e1 e2
      exact ⟨vs, upd_same, Rps.le0 t (Le.grow h)⟩
  · show q ∉ O.cs ++ [p]
    intro z
    rcases List.mem_append.mp z with z | z
    · exact (s.own q hq).1 z
    · have e : q = p := by simpa using z
      subst e
      exact hp (.inr hq)
/-- a list is being made at p -/
def Ow.make (O : Ow) (p : Addr) : Ow := ⟨O.cs, p :: O.pv⟩
theorem hide_make {p : Addr} {o : HO} (h : H p = Option.none) : hide (O.make p) (upd H p o) = hide O H := by
  funext a
  unfold hide Ow.make
  by_cases e : a = p
  · subst e
    simp [h]
  · simp [e, upd_ne e]
theorem SOk.make {p : Addr} (s : SOk K mg T O H S) (h : H p = Option.none) : SOk K mg T (O.make p) (upd H p (.lst [])) S := by
  have hp := s.ne h
  refine ⟨s.len, s.nd, fun n a c e1 e2 => ?_, s.tabs.ext (same_upd h), T.mono ⟨⟨[], by simp [Ow.make]⟩, by rw [hide_make h]; exact Same.refl _⟩ s.inv, fun q hq => ?_⟩
  · have := s.cell n a c e1 e2
    have hne : a ≠ p := fun z => hp (.inl (by rw [← z]; exact List.mem_of_getElem? e1))
    cases c with
    | lst ds =>
      obtain ⟨vs, z, t⟩ := this
      exact ⟨vs, by rw [upd_ne hne]; exact z, by rw [hide_make h]; exact t⟩
  · rcases List.mem_cons.mp hq with e | hq
    · subst e
      exact ⟨fun z => hp (.inl z), [], upd_same⟩
    · exact s.own_new h q hq
/-- .. it grows -/
theorem hide_made {p : Addr} {o : HO} (m : p ∈ O.pv) : hide O (upd H p o) = hide O H := by
  funext a
  unfold hide
  by_cases e : a = p
  · subst e
    simp [m]
  · rw [upd_ne e]
theorem SOk.made {p : Addr} {vs : List V} (s : SOk K mg T O H S) (m : p ∈ O.pv) : SOk K mg T O (upd H p (.lst vs)) S := by
  obtain ⟨h1, us, h2⟩ := s.own p m
  refine ⟨s.len, s.nd, fun n a c e1 e2 => ?_, tabs_upd s.tabs h2, T.mono ⟨⟨[], by simp⟩, by rw [hide_made m]; exact Same.refl _⟩ s.inv, fun q hq => ⟨(s.own q hq).1, ?_⟩⟩
  · have := s.cell n a c e1 e2
    have hne : a ≠ p := fun z => h1 (by rw [← z]; exact List.mem_of_getElem? e1)
    cases c with
    | lst ds =>
      obtain ⟨vs, z, t⟩ := this
      exact ⟨vs, by rw [upd_ne hne]; exact z, by rw [hide_made m]; exact t⟩
  · by_cases e : q = p
    · subst e
      exact ⟨_, upd_same⟩
    · obtain ⟨_, us, z⟩ := s.own q hq
      exact ⟨us, by rw [upd_ne e]; exact z⟩
/-- .. it is done -/
def Ow.done (O : Ow) (pv : List Addr) : Ow := ⟨O.cs, pv⟩
theorem hide_done {p : Addr} {pv : List Addr} (e : O.pv = p :: pv) : Same (hide O H) (hide (O.done pv) H) := fun a o h => by
  obtain ⟨n, h, t⟩ := hide_le h
  exact hide_of (fun z => n (z.elim .inl fun z => .inr (by rw [e]; exact List.mem_cons_of_mem _ z))) h t
theorem SOk.done {p : Addr} {pv : List Addr} (s : SOk K mg T O H S) (e : O.pv = p :: pv) : SOk K mg T (O.done pv) H S := by
  refine ⟨s.len, s.nd, fun n a c e1 e2 => ?_, s.tabs, T.mono ⟨⟨[], by simp [Ow.done]⟩, hide_done e⟩ s.inv, fun q hq => s.own q (by rw [e]; exact List.mem_cons_of_mem _ hq)⟩
  have := s.cell n a c e1 e2
  cases c with
  | lst ds =>
    obtain ⟨vs, z, t⟩ := this
    exact ⟨vs, z, t.mono ⟨[], rfl⟩ (hide_done e)⟩
end
end Z
end
section
set_option maxHeartbeats 4000000
namespace Z
open PySem PySem.Spec PyProof.Rows L2
abbrev XKs := L2.St → XK
abbrev BE := Ev → M D
abbrev BT := Ev → M Bool
abbrev BA := Ev → M (List D)
section
variable (K : PySem.W.Frag) (mg : Str → Option Value) (T : Tb)
/-- what an end of a computation asks -/
def Po {α β : Type} (R : List Addr → Hp → β → α → Prop) (r : Res α) (O : Ow) (H : Hp) (Q : β → Hp → Prop) (E : XK) : Prop := match r with
  | .ok a S' => ∀ O' H' b, Le O H O' H' → SOk K mg T O' H' S' → R O'.cs (hide O' H') b a → Q b H'
  | .err c S' => ∀ O' H' C, Le O H O' H' → SOk K mg T O' H' S' → mg c = some (.ref C) → E (.ref C) none H'
  | .no => False
abbrev RB : List Addr → Hp → Bool → Bool → Prop := fun _ _ b a => b = a
def tD (E : XKs) (f : BE) : TE := fun σ H Q => ∃ env S O, REnv K mg O.cs (hide O H) σ env ∧ SOk K mg T O H S ∧ Po K mg T (Rp K mg) (f env S) O H Q (E σ)
def tDT (E : XKs) (f : BT) : TT := fun σ H Q => ∃ env S O, REnv K mg O.cs (hide O H) σ env ∧ SOk K mg T O H S ∧ Po K mg T RB (f env S) O H Q (E σ)
def tDA (E : XKs) (f : BA) : TA := fun σ H Q => ∃ env S O, REnv K mg O.cs (hide O H) σ env ∧ SOk K mg T O H S ∧ Po K mg T (Rps K mg) (f env S) O H Q (E σ)
end
section
variable {K : PySem.W.Frag} {mg : Str → Option Value} {T : Tb} {α β γ δ : Type} {R : List Addr → Hp → β → α → Prop} {R' : List Addr → Hp → δ → γ → Prop}
theorem Po.le {r : Res α} {O O' : Ow} {H H' : Hp} {Q : β → Hp → Prop} {E : XK} (h : Po K mg T R r O H Q E) (l : Le O H O' H') : Po K mg T R r O' H' Q E := by
  cases r with
  | ok a S' => exact fun O2 H2 b l2 s q => h O2 H2 b (l.trans l2) s q
  | err c S' => exact fun O2 H2 C l2 s q => h O2 H2 C (l.trans l2) s q
  | no => exact h
/-- one computation behind another -/
theorem Po.bind {m : M α} {f : α → M γ} {S : Store} {O : Ow} {H : Hp} {Q : β → Hp → Prop} {Q' : δ → Hp → Prop} {E : XK} (h : Po K mg T R' ((m >>= f) S) O H Q' E)
    (k : ∀ a S1 O1 H1 b, Le O H O1 H1 → SOk K mg T O1 H1 S1 → R O1.cs (hide O1 H1) b a → Po K mg T R' (f a S1) O1 H1 Q' E → Q b H1) : Po K mg T R (m S) O H Q E := by
  rw [bd_ap] at h
  cases e : m S with
  | ok a S1 =>
    rw [e] at h
    exact fun O1 H1 b l s r => k a S1 O1 H1 b l s r (Po.le h l)
  | err c S1 =>
    rw [e] at h
    exact h
  | no =>
    rw [e] at h
    exact h
theorem Po.imp {r : Res α} {O : Ow} {H : Hp} {Q Q' : β → Hp → Prop} {E : XK} (h : Po K mg T R r O H Q E) (k : ∀ b H', Q b H' → Q' b H') : Po K mg T R r O H Q' E := by
  cases r with
  | ok a S' => exact fun O2 H2 b l2 s q => k _ _ (h O2 H2 b l2 s q)
  | err c S' => exact h
  | no => exact h
end

theorem _root_.L2.PE.monoZ {X : Cx} {e : Expr} {t t' : TE} (h : PE X e t) (k : ∀ σ H Q, t' σ H Q → t σ H Q) : PE X e t' := ⟨fun pins s σ H Q I q => h.run pins s σ H Q I (k _ _ _ q)⟩
theorem _root_.L2.PT.monoZ {X : Cx} {e : Expr} {t t' : TT} (h : PT X e t) (k : ∀ σ H Q, t' σ H Q → t σ H Q) : PT X e t' := ⟨fun pins s σ H Q I q => h.run pins s σ H Q I (k _ _ _ q)⟩
theorem _root_.L2.PW.monoZ {X : Cx} {e : Expr} {t t' : TT} (h : PW X e t) (k : ∀ σ H Q, t' σ H Q → t σ H Q) : PW X e t' := ⟨fun w pins s σ H Q I q => h.run w pins s σ H Q I (k _ _ _ q)⟩
theorem _root_.L2.PA.monoZ {X : Cx} {e : List Expr} {t t' : TA} (h : PA X e t) (k : ∀ σ H Q, t' σ H Q → t σ H Q) : PA X e t' := ⟨fun w pins s σ H Q I q => h.run w pins s σ H Q I (k _ _ _ q)⟩
theorem _root_.L2.PS.monoZ {X : Cx} {e : Stmt} {t t' : TS} (h : PS X e t) (k : ∀ D σ H, t' D σ H → t D σ H) : PS X e t' := ⟨fun pins s σ H Q I q => h.run pins s σ H Q I (k _ _ _ q)⟩
theorem _root_.L2.PSs.monoZ {X : Cx} {e : List Stmt} {t t' : TS} (h : PSs X e t) (k : ∀ D σ H, t' D σ H → t D σ H) : PSs X e t' := ⟨fun pins s σ H Q I q => h.run pins s σ H Q I (k _ _ _ q)⟩

/-! ### judgements over data -/
structure DE (X : Cx) (T : Tb) (E : XKs) (e : Expr) (f : BE) : Prop where
  pe : PE X e (tD X.K X.mg T E f)
structure DT (X : Cx) (T : Tb) (E : XKs) (e : Expr) (f : BT) : Prop where
  pt : PT X e (tDT X.K X.mg T E f)
structure DW (X : Cx) (T : Tb) (E : XKs) (e : Expr) (f : BT) : Prop where
  pw : PW X e (tDT X.K X.mg T E f)
structure DA (X : Cx) (T : Tb) (E : XKs) (es : List Expr) (f : BA) : Prop where
  pa : PA X es (tDA X.K X.mg T E f)

/-! ### expressions -/
def eVar (i : Nat) : BE := fun env => ofO (env[i]?.getD none)
def eC (d : D) : BE := fun _ => pure d
section
variable {X : Cx} {T : Tb} {E : XKs}
theorem de_var (i : Nat) {x : Str} {pos : Pos} (hN : X.N[i]? = some x := by rfl) (hv : Vis X.env.scope x := by first | exact Or.inl rfl | exact Or.inr (Or.inl rfl) | exact Or.inr (Or.inr rfl)) (hd : (x == ("__debug__" : Str)) = false := by decide)
    (hcd : (x == ("__classdict__" : Str)) = false := by decide) : DE X T E (.Name x pos) (eVar i) := ⟨(pe_var hN hv hd hcd).monoZ fun σ H Q ⟨env, S, O, re, so, q⟩ => by
  unfold eVar at q
  cases e : env[i]? with
  | none =>
    rw [e] at q
    exact q.elim
  | some o =>
    cases o with
    | none =>
      rw [e] at q
      exact q.elim
    | some d =>
      rw [e] at q
      obtain ⟨v, h1, h2⟩ := re.2 i d e
      exact ⟨v, h1, q O H v Le.refl so h2⟩⟩
theorem de_const {e : Expr} {d : D} {v : V} (h : PE X e (tC v)) (r : ∀ O G, Rp X.K X.mg O G v d) : DE X T E e (eC d) := ⟨h.monoZ fun σ H Q ⟨env, S, O, re, so, q⟩ => q O H v Le.refl so (r _ _)⟩
theorem de_int {i : Int} {j pos} : DE X T E (.Constant (.int i) j pos) (eC (.int i)) := de_const pe_int fun _ _ => .int i
theorem de_bl {b j pos} : DE X T E (.Constant (.bool b) j pos) (eC (.bool b)) := de_const pe_bl fun _ _ => .bl b
theorem de_non {j pos} : DE X T E (.Constant .none j pos) (eC .none) := de_const pe_non fun _ _ => .non
theorem de_str {x j pos} : DE X T E (.Constant (.str x) j pos) (eC (.str x)) := de_const pe_str fun _ _ => .str x
/-- a def of the module, as a value -/
theorem de_fn {x : Str} {f : Addr} {pos : Pos} (hg : Gl X x) (hm : X.mg x = some (.ref f)) (hd : (x == ("__debug__" : Str)) = false := by decide) : DE X T E (.Name x pos) (eC (.fn x)) :=
  de_const (pe_glob (v := .ref f) hg hm rfl hd) fun _ _ => .fn hm

/-! ### two values -/
/-- g tells what the operation r makes of data -/
def Op2 (X : Cx) (T : Tb) (r : R2) (g : D → D → M D) : Prop := ∀ O H S x y a b Q E, SOk X.K X.mg T O H S → Rp X.K X.mg O.cs (hide O H) x a → Rp X.K X.mg O.cs (hide O H) y b → Po X.K X.mg T (Rp X.K X.mg) (g a b S) O H Q E → r x y H Q
def e2 (g : D → D → M D) (f1 f2 : BE) : BE := fun env => f1 env >>= fun a => f2 env >>= fun b => g a b
theorem t2_op {r : R2} {g : D → D → M D} {f1 f2 : BE} (h : Op2 X T r g) : ∀ σ H Q, tD X.K X.mg T E (e2 g f1 f2) σ H Q → tOp r (tD X.K X.mg T E f1) (tD X.K X.mg T E f2) σ H Q := fun σ H Q ⟨env, S, O, re, so, q⟩ =>
  ⟨env, S, O, re, so, Po.bind q fun a S1 O1 H1 x l s1 r1 q1 => ⟨env, S1, O1, re.mono l, s1, Po.bind q1 fun b S2 O2 H2 y l2 s2 r2 q2 => h O2 H2 S2 x y a b Q _ s2 (r1.le l2) r2 q2⟩⟩
theorem de_op {op : Operator} {r : R2} {g : D → D → M D} {a b : Expr} {f1 f2 : BE} {pos : Pos} (ho : OpR X (binaryOp op) r) (h : Op2 X T r g) (ha : DE X T E a f1) (hb : DE X T E b f2) : DE X T E (.BinOp a op b pos) (e2 g f1 f2) :=
  ⟨(pe_op ho ha.pe hb.pe).monoZ (t2_op h)⟩
theorem de_cmp {op : CmpOp} {r : R2} {g : D → D → M D} {a b : Expr} {f1 f2 : BE} {pos : Pos} (ho : OpR X (compareOp op) r) (h : Op2 X T r g) (ha : DE X T E a f1) (hb : DE X T E b f2) (hm : behindInMarks op b = false) : DE X T E (.Compare a [op] [b] pos) (e2 g f1 f2) :=
  ⟨(pe_cmpR ho ha.pe hb.pe hm).monoZ (t2_op h)⟩
theorem de_ix {r : R2} {g : D → D → M D} {a b : Expr} {f1 f2 : BE} {pos : Pos} (hr : IxR X r) (h : Op2 X T r g) (ha : DE X T E a f1) (hb : DE X T E b f2) (hs : PlainIx b := by intro _ _; rfl) : DE X T E (.Subscript a b pos) (e2 g f1 f2) :=
  ⟨(pe_ix hr ha.pe hb.pe hs).monoZ (t2_op h)⟩
/-- one value -/
def Op1 (X : Cx) (T : Tb) (r : V → Hp → VK → Prop) (g : D → M D) : Prop := ∀ O H S x a Q E, SOk X.K X.mg T O H S → Rp X.K X.mg O.cs (hide O H) x a → Po X.K X.mg T (Rp X.K X.mg) (g a S) O H Q E → r x H Q
def e1 (g : D → M D) (f : BE) : BE := fun env => f env >>= g
theorem de_un {op : UnaryOp} {r : V → Hp → VK → Prop} {g : D → M D} {a : Expr} {f : BE} {pos : Pos} (ho : UnR X (unaryOp op) r) (h : Op1 X T r g) (ha : DE X T E a f) : DE X T E (.UnaryOp op a pos) (e1 g f) :=
  ⟨(pe_un ho ha.pe).monoZ fun σ H Q ⟨env, S, O, re, so, q⟩ => ⟨env, S, O, re, so, Po.bind q fun a S1 O1 H1 x l s1 r1 q1 => h O1 H1 S1 x a Q _ s1 r1 q1⟩⟩

/-! ### argument lists -/
def aNil : BA := fun _ => pure []
def aCons (f : BE) (g : BA) : BA := fun env => f env >>= fun a => g env >>= fun as => pure (a :: as)
theorem da_nil : DA X T E [] aNil := ⟨pa_nil.monoZ fun σ H Q ⟨env, S, O, re, so, q⟩ => q O H [] Le.refl so .nil⟩
theorem da_cons {e : Expr} {es : List Expr} {f : BE} {g : BA} (ha : DE X T E e f) (hr : DA X T E es g) (hs : starEach (e :: es) X.env = (false, eval e X.env) :: starEach es X.env := by rfl) : DA X T E (e :: es) (aCons f g) :=
  ⟨(pa_cons ha.pe hr.pa hs).monoZ fun σ H Q ⟨env, S, O, re, so, q⟩ => ⟨env, S, O, re, so, Po.bind q fun a S1 O1 H1 x l s1 r1 q1 =>
    ⟨env, S1, O1, re.mono l, s1, Po.bind q1 fun as S2 O2 H2 xs l2 s2 r2 q2 => q2 O2 H2 (x :: xs) Le.refl s2 (.cons (r1.le l2) r2)⟩⟩⟩
/-- a display -/
def eTup (g : BA) : BE := fun env => g env >>= fun as => if as.length ≤ 1000000 then pure (.tuple as) else no
def eLst (g : BA) : BE := fun env => g env >>= fun as => if as.length ≤ 1000000 then pure (.list as) else no
theorem small_len {n : Nat} (h : n ≤ 1000000) : n ≤ sizeLine := Nat.le_trans h (by decide)
theorem new_tup {O : Ow} {H : Hp} {S : Store} {as : List D} {xs : List V} {Q : VK} {Ex : XK} (so : SOk X.K X.mg T O H S) (r : Rps X.K X.mg O.cs (hide O H) xs as) (q : Po X.K X.mg T (Rp X.K X.mg) (.ok (.tuple as) S) O H Q Ex) :
    ∀ p, H p = none → Q (.ref p) (upd H p (.tup xs)) := fun p hp =>
  q O _ (.ref p) (Le.new hp) (so.new hp) (.tup (.inl (.inl (hide_of (so.ne hp) upd_same))) (r.le (Le.new hp)))
theorem new_lst {O : Ow} {H : Hp} {S : Store} {as : List D} {xs : List V} {Q : VK} {Ex : XK} (so : SOk X.K X.mg T O H S) (r : Rps X.K X.mg O.cs (hide O H) xs as) (q : Po X.K X.mg T (Rp X.K X.mg) (.ok (.list as) S) O H Q Ex) :
    ∀ p, H p = none → Q (.ref p) (upd H p (.lst xs)) := fun p hp =>
  q O _ (.ref p) (Le.new hp) (so.new hp) (.lst (hide_of (so.ne hp) upd_same) (r.le (Le.new hp)))
theorem de_tup {es : List Expr} {g : BA} {x1 pos} (h : DA X T E es g) : DE X T E (.Tuple es x1 pos) (eTup g) :=
  ⟨(pe_tup h.pa).monoZ fun σ H Q ⟨env, S, O, re, so, q⟩ => ⟨env, S, O, re, so, Po.bind q fun as S1 O1 H1 xs l s1 r1 q1 => by
    split at q1
    · rename_i hl
      exact ⟨by rw [r1.length]; exact small_len hl, new_tup s1 r1 q1⟩
    · exact q1.elim⟩⟩
theorem de_lst {es : List Expr} {g : BA} {pos} (h : DA X T E es g) : DE X T E (.List es pos) (eLst g) :=
  ⟨(pe_lst h.pa).monoZ fun σ H Q ⟨env, S, O, re, so, q⟩ => ⟨env, S, O, re, so, Po.bind q fun as S1 O1 H1 xs l s1 r1 q1 => by
    split at q1
    · rename_i hl
      exact ⟨by rw [r1.length]; exact small_len hl, new_lst s1 r1 q1⟩
    · exact q1.elim⟩⟩
/-- a display that is going to change -/
def newCell (as : List D) : M D := fun S => if fixDs as = true then .ok (.cell S.length) (S ++ [.lst as]) else .no
def eCel (g : BA) : BE := fun env => g env >>= fun as => if as.length ≤ 1000000 then newCell as else no
theorem new_cell {O : Ow} {H : Hp} {S : Store} {as : List D} {xs : List V} {Q : VK} {Ex : XK} (so : SOk X.K X.mg T O H S) (r : Rps X.K X.mg O.cs (hide O H) xs as) (q : Po X.K X.mg T (Rp X.K X.mg) (newCell as S) O H Q Ex) :
    ∀ p, H p = none → Q (.ref p) (upd H p (.lst xs)) := fun p hp => by
  unfold newCell at q
  split at q
  · rename_i hf
    exact q (O.add p) _ (.ref p) (Le.grow hp) (so.grow hp (r.fix hf)) (.cell (by rw [← so.len, Ow.add, List.getElem?_append_right (Nat.le_refl _)]; simp))
  · exact q.elim
theorem de_cel {es : List Expr} {g : BA} {pos} (h : DA X T E es g) : DE X T E (.List es pos) (eCel g) :=
  ⟨(pe_lst h.pa).monoZ fun σ H Q ⟨env, S, O, re, so, q⟩ => ⟨env, S, O, re, so, Po.bind q fun as S1 O1 H1 xs l s1 r1 q1 => by
    by_cases hl : as.length ≤ 1000000
    · rw [if_pos hl] at q1
      exact ⟨by rw [r1.length]; exact small_len hl, new_cell s1 r1 q1⟩
    · rw [if_neg hl] at q1
      exact q1.elim⟩⟩
end

/-! ### tests -/
def tru (a : D) : M Bool := fun S => match a with
  | .none => .ok false S
  | .bool b => .ok b S
  | .int i => .ok (i != 0) S
  | .list xs => .ok (!xs.isEmpty) S
  | .frz xs => .ok (!xs.isEmpty) S
  | .tuple xs => .ok (!xs.isEmpty) S
  | .cell n => match S[n]? with
    | some (.lst xs) => .ok (!xs.isEmpty) S
    | _ => .no
  | _ => .no
def bTru (f : BE) : BT := fun env => f env >>= tru
theorem isE {xs : List V} {ds : List D} (h : xs.length = ds.length) : xs.isEmpty = ds.isEmpty := by
  cases xs <;> cases ds <;> simp_all
section
variable {X : Cx} {T : Tb} {E : XKs}
theorem sok_cell {K : PySem.W.Frag} {mg : Str → Option Value} {T : Tb} {O : Ow} {H : Hp} {S : Store} {n : Nat} {a : Addr} {ds : List D} (s : SOk K mg T O H S) (h : O.cs[n]? = some a) (e : S[n]? = some (.lst ds)) : ∃ vs, H a = some (.lst vs) ∧ Rps K mg O.cs (hide O H) vs ds := by
  obtain ⟨vs, h1, h2⟩ := s.cell n a _ h e
  exact ⟨vs, h1, h2.mono ⟨O.cs, rfl⟩ (Same.refl _)⟩
theorem sl_le {K : PySem.W.Frag} {O : Ow} {H : Hp} {a : Addr} {xs : List V} (h : SqL K (hide O H) a xs) : SqL K H a xs := Same.seq (fun b o q => (hide_le q).2.1) h
theorem st_le {K : PySem.W.Frag} {O : Ow} {H : Hp} {a : Addr} {xs : List V} (h : SqT K (hide O H) a xs) : SqT K H a xs := Same.seqT (fun b o q => (hide_le q).2.1) h
theorem dt_tru {e : Expr} {f : BE} (h : DE X T E e f) (he : ∀ whole, isTrue e X.env whole = (do let v ← whole; standAt e.pos; holding [v] (truthy v)) := by intro _; rfl) : DT X T E e (bTru f) :=
  ⟨(pt_truth h.pe he).monoZ fun σ H Q ⟨env, S, O, re, so, q⟩ => ⟨env, S, O, re, so, Po.bind q fun a S1 O1 H1 x l s1 r1 q1 => by
    cases r1 with
    | non => exact ⟨false, rfl, q1 O1 H1 false Le.refl s1 rfl⟩
    | bl b => exact ⟨b, rfl, q1 O1 H1 b Le.refl s1 rfl⟩
    | int i => exact ⟨i != 0, rfl, q1 O1 H1 _ Le.refl s1 rfl⟩
    | str i => exact q1.elim
    | lst hs t => exact ⟨_, .inl ⟨_, .inl (.inl (hide_le hs).2.1), rfl⟩, q1 O1 H1 _ Le.refl s1 (by rw [isE t.length])⟩
    | frz hs t => exact ⟨_, .inl ⟨_, sl_le hs, rfl⟩, q1 O1 H1 _ Le.refl s1 (by rw [isE t.length])⟩
    | tup hs t => exact ⟨_, .inr (.inl ⟨_, st_le hs, rfl⟩), q1 O1 H1 _ Le.refl s1 (by rw [isE t.length])⟩
    | @cell a n hO =>
      unfold tru at q1
      dsimp only at q1
      split at q1
      · rename_i ds e2
        obtain ⟨vs, h1, h2⟩ := sok_cell s1 hO e2
        exact ⟨_, .inl ⟨vs, .inl (.inl h1), rfl⟩, q1 O1 H1 _ Le.refl s1 (by rw [isE h2.length])⟩
      · exact q1.elim
    | fn _ => exact q1.elim
    | adr _ => exact q1.elim⟩⟩
/-- a comparison, as a test -/
def tB1 (f : BE) : BT := fun env => f env >>= fun a => match a with
  | .bool b => pure b
  | _ => no
theorem toB {r : R2} {g : D → D → M D} {f1 f2 : BE} (h : Op2 X T r g) : ∀ σ H Q, tDT X.K X.mg T E (tB1 (e2 g f1 f2)) σ H Q → tTest (tOp r (tD X.K X.mg T E f1) (tD X.K X.mg T E f2)) σ H Q := fun σ H Q ⟨env, S, O, re, so, q⟩ =>
  t2_op h σ H _ ⟨env, S, O, re, so, Po.bind q fun a S1 O1 H1 x l s1 r1 q1 => by
    cases r1 with
    | bl b => exact ⟨b, rfl, q1 O1 H1 b Le.refl s1 rfl⟩
    | _ => exact q1.elim⟩
theorem dt_cmp {op : CmpOp} {r : R2} {g : D → D → M D} {a b : Expr} {f1 f2 : BE} {pos : Pos} (ho : OpR X (compareOp op) r) (h : Op2 X T r g) (ha : DE X T E a f1) (hb : DE X T E b f2) (hm : behindInMarks op b = false) : DT X T E (.Compare a [op] [b] pos) (tB1 (e2 g f1 f2)) :=
  ⟨(pt_cmpR ho ha.pe hb.pe hm).monoZ (toB h)⟩
def bNot (f : BT) : BT := fun env => f env >>= fun b => pure (!b)
theorem dt_not {a : Expr} {f : BT} {pos : Pos} (h : DT X T E a f) : DT X T E (.UnaryOp .Not a pos) (bNot f) :=
  ⟨(pt_not h.pt).monoZ fun σ H Q ⟨env, S, O, re, so, q⟩ => ⟨env, S, O, re, so, Po.bind q fun b S1 O1 H1 x l s1 r1 q1 => by
    cases r1
    exact q1 O1 H1 _ Le.refl s1 rfl⟩⟩
def bAnd (f g : BT) : BT := fun env => f env >>= fun b => if b = true then g env else pure false
def bOr (f g : BT) : BT := fun env => f env >>= fun b => if b = true then pure true else g env
theorem dw_and1 {a : Expr} {f : BT} {pos : Pos} (h : DT X T E a f) : DW X T E (.BoolOp .And [a] pos) f := ⟨pw_and1 h.pt⟩
theorem dw_or1 {a : Expr} {f : BT} {pos : Pos} (h : DT X T E a f) : DW X T E (.BoolOp .Or [a] pos) f := ⟨pw_or1 h.pt⟩
theorem dw_and {a b : Expr} {rest : List Expr} {f g : BT} {pos : Pos} (h : DT X T E a f) (k : DW X T E (.BoolOp .And (b :: rest) pos) g) : DW X T E (.BoolOp .And (a :: b :: rest) pos) (bAnd f g) :=
  ⟨(pw_and h.pt k.pw).monoZ fun σ H Q ⟨env, S, O, re, so, q⟩ => ⟨env, S, O, re, so, Po.bind q fun b S1 O1 H1 x l s1 r1 q1 => by
    cases r1
    cases b with
    | true => exact ⟨env, S1, O1, re.mono l, s1, q1⟩
    | false => exact q1 O1 H1 _ Le.refl s1 rfl⟩⟩
theorem dw_or {a b : Expr} {rest : List Expr} {f g : BT} {pos : Pos} (h : DT X T E a f) (k : DW X T E (.BoolOp .Or (b :: rest) pos) g) : DW X T E (.BoolOp .Or (a :: b :: rest) pos) (bOr f g) :=
  ⟨(pw_or h.pt k.pw).monoZ fun σ H Q ⟨env, S, O, re, so, q⟩ => ⟨env, S, O, re, so, Po.bind q fun b S1 O1 H1 x l s1 r1 q1 => by
    cases r1
    cases b with
    | true => exact q1 O1 H1 _ Le.refl s1 rfl
    | false => exact ⟨env, S1, O1, re.mono l, s1, q1⟩⟩⟩
theorem dt_w {e : Expr} {f : BT} (h : DW X T E e f) : DT X T E e f := ⟨h.pw.pt⟩
/-- and, or, not as values, of truth values -/
def toBool : D → M Bool
  | .bool b => pure b
  | _ => no
def eAnd (f g : BE) : BE := fun env => f env >>= fun a => toBool a >>= fun b => if b = true then g env else pure (.bool false)
def eOr (f g : BE) : BE := fun env => f env >>= fun a => toBool a >>= fun b => if b = true then pure (.bool true) else g env
def eNot (f : BE) : BE := fun env => f env >>= fun a => toBool a >>= fun b => pure (.bool (!b))
theorem de_one {op} {a : Expr} {f : BE} {pos : Pos} (h : DE X T E a f) : DE X T E (.BoolOp op [a] pos) f := ⟨pe_one h.pe⟩
theorem de_and {a b : Expr} {rest : List Expr} {f g : BE} {pos : Pos} (h : DE X T E a f) (k : DE X T E (.BoolOp .And (b :: rest) pos) g) : DE X T E (.BoolOp .And (a :: b :: rest) pos) (eAnd f g) :=
  ⟨(pe_and h.pe k.pe).monoZ fun σ H Q ⟨env, S, O, re, so, q⟩ => ⟨env, S, O, re, so, Po.bind q fun d S1 O1 H1 x l s1 r1 q1 => by
    cases r1 with
    | bl b =>
      refine ⟨b, rfl, ?_⟩
      cases b with
      | true => exact ⟨env, S1, O1, re.mono l, s1, q1⟩
      | false => exact q1 O1 H1 _ Le.refl s1 (.bl false)
    | _ => exact q1.elim⟩⟩
theorem de_or {a b : Expr} {rest : List Expr} {f g : BE} {pos : Pos} (h : DE X T E a f) (k : DE X T E (.BoolOp .Or (b :: rest) pos) g) : DE X T E (.BoolOp .Or (a :: b :: rest) pos) (eOr f g) :=
  ⟨(pe_or h.pe k.pe).monoZ fun σ H Q ⟨env, S, O, re, so, q⟩ => ⟨env, S, O, re, so, Po.bind q fun d S1 O1 H1 x l s1 r1 q1 => by
    cases r1 with
    | bl b =>
      refine ⟨b, rfl, ?_⟩
      cases b with
      | true => exact q1 O1 H1 _ Le.refl s1 (.bl true)
      | false => exact ⟨env, S1, O1, re.mono l, s1, q1⟩
    | _ => exact q1.elim⟩⟩
theorem de_not {a : Expr} {f : BE} {pos : Pos} (h : DE X T E a f) : DE X T E (.UnaryOp .Not a pos) (eNot f) :=
  ⟨(pe_not h.pe).monoZ fun σ H Q ⟨env, S, O, re, so, q⟩ => ⟨env, S, O, re, so, Po.bind q fun d S1 O1 H1 x l s1 r1 q1 => by
    cases r1 with
    | bl b => exact ⟨b, rfl, q1 O1 H1 _ Le.refl s1 (.bl _)⟩
    | _ => exact q1.elim⟩⟩
def eIf (t : BT) (f g : BE) : BE := fun env => t env >>= fun b => if b = true then f env else g env
theorem de_if {c a b : Expr} {t : BT} {f g : BE} {pos : Pos} (hc : DT X T E c t) (ha : DE X T E a f) (hb : DE X T E b g) : DE X T E (.IfExp c a b pos) (eIf t f g) :=
  ⟨(pe_ifExp hc.pt ha.pe hb.pe).monoZ fun σ H Q ⟨env, S, O, re, so, q⟩ => ⟨env, S, O, re, so, Po.bind q fun d S1 O1 H1 x l s1 r1 q1 => by
    cases r1
    cases d with
    | true => exact ⟨env, S1, O1, re.mono l, s1, q1⟩
    | false => exact ⟨env, S1, O1, re.mono l, s1, q1⟩⟩⟩
end
end Z
end
section
set_option maxHeartbeats 4000000
namespace Z
open PySem PySem.Spec PyProof.Rows L2

/-! ### statements -/
inductive SR where
  | next (env : Ev) (S : Store) | ret (d : D) (S : Store) | brk (env : Ev) (S : Store) | cont (env : Ev) (S : Store) | err (c : Str) (env : Ev) (S : Store) | no
abbrev BS := Ev → Store → SR
section
variable (K : PySem.W.Frag) (mg : Str → Option Value) (T : Tb)
def PoS (r : SR) (O : Ow) (H : Hp) (Dn : Ends) (E : XKs) : Prop := match r with
  | .next env S' => ∀ O' H' σ', Le O H O' H' → SOk K mg T O' H' S' → REnv K mg O'.cs (hide O' H') σ' env → Dn.nx σ' H'
  | .ret d S' => ∀ O' H' v, Le O H O' H' → SOk K mg T O' H' S' → Rp K mg O'.cs (hide O' H') v d → Dn.rt v H'
  | .brk env S' => ∀ O' H' σ', Le O H O' H' → SOk K mg T O' H' S' → REnv K mg O'.cs (hide O' H') σ' env → Dn.bk σ' H'
  | .cont env S' => ∀ O' H' σ', Le O H O' H' → SOk K mg T O' H' S' → REnv K mg O'.cs (hide O' H') σ' env → Dn.ct σ' H'
  | .err c env S' => ∀ O' H' σ' C, Le O H O' H' → SOk K mg T O' H' S' → REnv K mg O'.cs (hide O' H') σ' env → mg c = some (.ref C) → E σ' (.ref C) none H'
  | .no => False
def tDS (E : XKs) (f : BS) : TS := fun Dn σ H => ∃ env S O, REnv K mg O.cs (hide O H) σ env ∧ SOk K mg T O H S ∧ PoS K mg T (f env S) O H Dn E
end
section
variable {K : PySem.W.Frag} {mg : Str → Option Value} {T : Tb}
theorem PoS.le {r : SR} {O O' : Ow} {H H' : Hp} {Dn : Ends} {E : XKs} (h : PoS K mg T r O H Dn E) (l : Le O H O' H') : PoS K mg T r O' H' Dn E := by
  cases r with
  | next a S' => exact fun O2 H2 b l2 s q => h O2 H2 b (l.trans l2) s q
  | ret a S' => exact fun O2 H2 b l2 s q => h O2 H2 b (l.trans l2) s q
  | brk a S' => exact fun O2 H2 b l2 s q => h O2 H2 b (l.trans l2) s q
  | cont a S' => exact fun O2 H2 b l2 s q => h O2 H2 b (l.trans l2) s q
  | err c e S' => exact fun O2 H2 b C l2 s q => h O2 H2 b C (l.trans l2) s q
  | no => exact h
/-- a value, then a statement's end -/
def thenS {α : Type} (m : Res α) (env : Ev) (f : α → Store → SR) : SR := match m with
  | .ok a S' => f a S'
  | .err c S' => .err c env S'
  | .no => .no
@[simp] theorem thenS_ok {α : Type} (a : α) (S : Store) (env : Ev) (f : α → Store → SR) : thenS (.ok a S) env f = f a S := rfl
@[simp] theorem thenS_err {α : Type} (c : Str) (S : Store) (env : Ev) (f : α → Store → SR) : thenS (.err c S) env f = .err c env S := rfl
@[simp] theorem thenS_no {α : Type} (env : Ev) (f : α → Store → SR) : thenS .no env f = .no := rfl
theorem PoS.bind {α β : Type} {R : List Addr → Hp → β → α → Prop} {m : Res α} {f : α → Store → SR} {O : Ow} {H : Hp} {Q : β → Hp → Prop} {Dn : Ends} {E : XKs} {env : Ev} {σ : L2.St} (re : REnv K mg O.cs (hide O H) σ env) (h : PoS K mg T (thenS m env f) O H Dn E)
    (k : ∀ a S1 O1 H1 b, Le O H O1 H1 → SOk K mg T O1 H1 S1 → R O1.cs (hide O1 H1) b a → PoS K mg T (f a S1) O1 H1 Dn E → Q b H1) : Po K mg T R m O H Q (E σ) := by
  cases m with
  | ok a S1 => exact fun O1 H1 b l s r => k a S1 O1 H1 b l s r (PoS.le h l)
  | err c S1 => exact fun O1 H1 C l s e => h O1 H1 σ C l s (re.mono l) e
  | no => exact h
end
structure DS (X : Cx) (T : Tb) (E : XKs) (st : Stmt) (f : BS) : Prop where
  ps : PS X st (tDS X.K X.mg T E f)
structure DSs (X : Cx) (T : Tb) (E : XKs) (sts : List Stmt) (f : BS) : Prop where
  pss : PSs X sts (tDS X.K X.mg T E f)

def sNil : BS := fun env S => .next env S
def sSeq (f g : BS) : BS := fun env S => match f env S with
  | .next env' S' => g env' S'
  | r => r
def sExpr (f : BE) : BS := fun env S => thenS (f env S) env fun _ S' => .next env S'
def sRet (f : BE) : BS := fun env S => thenS (f env S) env fun a S' => .ret a S'
def sRetN : BS := fun _ S => .ret .none S
def sIf (t : BT) (f g : BS) : BS := fun env S => thenS (t env S) env fun b S' => if b = true then f env S' else g env S'
def sRaise (c : Str) : BS := fun env S => .err c env S
section
variable {X : Cx} {T : Tb} {E : XKs}
theorem tseq {f g : BS} : ∀ Dn σ H, tDS X.K X.mg T E (sSeq f g) Dn σ H → tSeq (tDS X.K X.mg T E f) (tDS X.K X.mg T E g) Dn σ H := fun Dn σ H ⟨env, S, O, re, so, q⟩ => by
  refine ⟨env, S, O, re, so, ?_⟩
  unfold sSeq at q
  cases e : f env S with
  | next env' S' =>
    rw [e] at q
    exact fun O' H' σ' l s r => ⟨env', S', O', r, s, PoS.le q l⟩
  | ret d S' => rw [e] at q; exact q
  | brk d S' => rw [e] at q; exact q
  | cont d S' => rw [e] at q; exact q
  | err c d S' => rw [e] at q; exact q
  | no => rw [e] at q; exact q
theorem ds_nil : DSs X T E [] sNil := ⟨pss_nil.monoZ fun Dn σ H ⟨env, S, O, re, so, q⟩ => q O H σ Le.refl so re⟩
theorem ds_cons {st : Stmt} {rest : List Stmt} {f g : BS} (h : DS X T E st f) (k : DSs X T E rest g) : DSs X T E (st :: rest) (sSeq f g) := ⟨(pss_cons h.ps k.pss).monoZ tseq⟩
theorem ds_one {st : Stmt} {f : BS} (h : DS X T E st f) : DSs X T E [st] f := ⟨pss_one h.ps⟩
theorem ds_pass {pos} : DS X T E (.Pass pos) sNil := ⟨ps_pass.monoZ fun Dn σ H ⟨env, S, O, re, so, q⟩ => q O H σ Le.refl so re⟩
theorem ds_expr {e : Expr} {f : BE} {pos} (h : DE X T E e f) (hs : swapsWith e none pos.line X.env = pure false := by rfl) : DS X T E (.Expr e pos) (sExpr f) :=
  ⟨(ps_expr h.pe hs).monoZ fun Dn σ H ⟨env, S, O, re, so, q⟩ => ⟨env, S, O, re, so, PoS.bind re q fun a S1 O1 H1 b l s r q1 => q1 O1 H1 σ Le.refl s (re.mono l)⟩⟩
theorem ds_ret {e : Expr} {f : BE} {pos} (h : DE X T E e f) : DS X T E (.Return (some e) pos) (sRet f) :=
  ⟨(ps_ret h.pe).monoZ fun Dn σ H ⟨env, S, O, re, so, q⟩ => ⟨env, S, O, re, so, PoS.bind re q fun a S1 O1 H1 b l s r q1 => q1 O1 H1 b Le.refl s r⟩⟩
theorem ds_retN {pos} : DS X T E (.Return none pos) sRetN := ⟨ps_retN.monoZ fun Dn σ H ⟨env, S, O, re, so, q⟩ => q O H .non Le.refl so .non⟩
theorem ds_if {c : Expr} {a b : List Stmt} {t : BT} {f g : BS} {pos} (hc : DT X T E c t) (ha : DSs X T E a f) (hb : DSs X T E b g) : DS X T E (.If c a b pos) (sIf t f g) :=
  ⟨(ps_if hc.pt ha.pss hb.pss).monoZ fun Dn σ H ⟨env, S, O, re, so, q⟩ => ⟨env, S, O, re, so, PoS.bind re q fun b S1 O1 H1 c l s r q1 => by
    cases r
    cases b with
    | true => exact ⟨env, S1, O1, re.mono l, s, q1⟩
    | false => exact ⟨env, S1, O1, re.mono l, s, q1⟩⟩⟩
end

/-! ### targets -/
inductive Tg where
  | name (i : Nat) | tup (ts : List Tg)
mutual
def asg (S : Store) : Tg → D → Ev → Option Ev
  | .name i, d, env => some (env.set i (some d))
  | .tup ts, .tuple ds, env => asgs S ts ds env
  | .tup ts, .list ds, env => asgs S ts ds env
  | .tup _, _, _ => none
def asgs (S : Store) : List Tg → List D → Ev → Option Ev
  | [], [], env => some env
  | t :: ts, d :: ds, env => (asg S t d env).bind fun env' => asgs S ts ds env'
  | _, _, _ => none
end
mutual
def Tg.slots : Tg → List Nat
  | .name i => [i]
  | .tup ts => Tg.slotss ts
def Tg.slotss : List Tg → List Nat
  | [] => []
  | t :: ts => t.slots ++ Tg.slotss ts
end
/-- the slots at is changed alone -/
def Only (is : List Nat) (σ σ' : L2.St) : Prop := σ'.length = σ.length ∧ ∀ i, i ∉ is → σ'[i]? = σ[i]?
theorem Only.refl (is : List Nat) (σ : L2.St) : Only is σ σ := ⟨rfl, fun _ _ => rfl⟩
theorem wipe_eq {σ σ' : L2.St} {vs : List Nat} (h : Only vs σ σ') : wipe σ' vs = wipe σ vs := by
  have key : ∀ (τ : L2.St) (is : List Nat) (i : Nat), (wipe τ is)[i]? = if i ∈ is then (if i < τ.length then some none else none) else τ[i]? := by
    intro τ is
    induction is with
    | nil => intro i; simp [wipe]
    | cons v r ih =>
      intro i
      unfold wipe
      by_cases hv : v = i
      · subst hv
        simp only [List.mem_cons, true_or, if_true]
        rw [List.getElem?_set_self']
        rw [show (wipe τ r)[v]? = _ from ih v]
        split
        · split <;> simp
        · by_cases hl : v < τ.length
          · simp [hl]
          · simp [hl]
      · rw [List.getElem?_set_ne hv, ih i]
        have : i ∈ v :: r ↔ i ∈ r := by simp [Ne.symm hv]
        simp only [this]
  apply List.ext_getElem?
  intro i
  rw [key, key]
  split
  · rw [h.1]
  · exact h.2 i (by assumption)
/-- from a tuple or a list -/
def gSq (K : PySem.W.Frag) (n : Nat) (t : TGs) : TG := fun v σ H Q => gTup K n t v σ H Q ∨ gLst K n t v σ H Q
mutual
def gT (K : PySem.W.Frag) : Tg → TG
  | .name i => gName i
  | .tup ts => gSq K ts.length (gTs K ts)
def gTs (K : PySem.W.Frag) : List Tg → TGs
  | [] => gNil
  | t :: ts => gCons (gT K t) (gTs K ts)
end
structure DG (X : Cx) (e : Expr) (t : Tg) : Prop where
  pg : PG X e (gT X.K t)
structure DGs (X : Cx) (es : List Expr) (ts : List Tg) : Prop where
  len : (assignEach es X.env).length = ts.length
  fin : (assignEach es X.env).findIdx? (·.1) = none
  pgs : PGs X es (gTs X.K ts)
theorem asgs_len {S : Store} : ∀ {ts : List Tg} {ds : List D} {env env' : Ev}, asgs S ts ds env = some env' → ds.length = ts.length
  | [], [], _, _, _ => rfl
  | [], _ :: _, _, _, h => by simp [asgs] at h
  | _ :: _, [], _, _, h => by simp [asgs] at h
  | t :: ts, d :: ds, env, env', h => by
    rw [asgs] at h
    cases q : asg S t d env with
    | none => rw [q] at h; cases h
    | some e1 =>
      rw [q] at h
      simp [asgs_len h]
section
variable {K : PySem.W.Frag} {mg : Str → Option Value} {O : Ow} {H : Hp} {S : Store}
mutual
theorem gT_ok : ∀ (t : Tg) {σ : L2.St} {v : V} {d : D} {env env' : Ev} {Q : L2.St → Hp → Prop}, REnv K mg O.cs (hide O H) σ env → Rp K mg O.cs (hide O H) v d → asg S t d env = some env' →
    (∀ σ', REnv K mg O.cs (hide O H) σ' env' → Only t.slots σ σ' → Q σ' H) → gT K t v σ H Q
  | .name i, σ, v, d, env, env', Q, re, r, e, k => by
    have e' : some (env.set i (some d)) = some env' := by rw [← e, asg]
    cases e'
    rw [gT]
    refine k _ (re.set r) ⟨by simp, fun j hj => ?_⟩
    rw [List.getElem?_set_ne (fun z => hj (by rw [Tg.slots, z]; exact List.mem_singleton_self _))]
  | .tup ts, σ, v, d, env, env', Q, re, r, e, k => by
    rw [gT]
    cases r with
    | tup hs t =>
      rw [asg] at e
      exact .inl ⟨_, _, rfl, st_le hs, by rw [t.length, asgs_len e], gTs_ok ts re t e fun σ' re' on => k σ' re' on⟩
    | lst hs t =>
      rw [asg] at e
      exact .inr ⟨_, _, rfl, .inl (.inl (hide_le hs).2.1), by rw [t.length, asgs_len e], gTs_ok ts re t e fun σ' re' on => k σ' re' on⟩
    | _ => simp [asg] at e
theorem gTs_ok : ∀ (ts : List Tg) {σ : L2.St} {vs : List V} {ds : List D} {env env' : Ev} {Q : L2.St → Hp → Prop}, REnv K mg O.cs (hide O H) σ env → Rps K mg O.cs (hide O H) vs ds → asgs S ts ds env = some env' →
    (∀ σ', REnv K mg O.cs (hide O H) σ' env' → Only (Tg.slotss ts) σ σ' → Q σ' H) → gTs K ts vs σ H Q
  | [], σ, vs, ds, env, env', Q, re, r, e, k => by
    rw [gTs]
    cases r with
    | nil =>
      have : env = env' := by simpa [asgs] using e
      subst this
      exact ⟨rfl, k σ re (Only.refl _ _)⟩
    | cons _ _ => simp [asgs] at e
  | t :: ts, σ, vs, ds, env, env', Q, re, r, ea, kk => by
    rw [gTs]
    cases r with
    | nil => simp [asgs] at ea
    | @cons v vr d dr rv rr =>
      rw [asgs] at ea
      cases q : asg S t d env with
      | none => rw [q] at ea; cases ea
      | some env1 =>
        rw [q] at ea
        refine ⟨v, vr, rfl, gT_ok t re rv q fun σ1 re1 on1 => ?_⟩
        refine gTs_ok ts re1 rr ea fun σ2 re2 on2 => kk σ2 re2 ⟨on2.1.trans on1.1, fun i hi => ?_⟩
        rw [Tg.slotss, List.mem_append, not_or] at hi
        exact (on2.2 i hi.2).trans (on1.2 i hi.1)
end
end
section
variable {X : Cx} {T : Tb} {E : XKs}
theorem dg_name (i : Nat) {x : Str} {pos} (hN : X.N.Nodup) (hi : X.N[i]? = some x := by rfl) (hx : Loc X.env.scope x := by first | exact Or.inl rfl | exact Or.inr rfl) (hf : X.fn x = true ∨ X.env.scope.names.lookup x = some .local := by first | exact .inl rfl | exact .inr rfl) : DG X (.Name x pos) (.name i) :=
  ⟨by rw [gT]; exact pg_name hN hi hx hf⟩
theorem dgs_nil : DGs X [] [] := ⟨rfl, rfl, by rw [gTs]; exact pgs_nil⟩
theorem dgs_cons {e : Expr} {es : List Expr} {t : Tg} {ts : List Tg} (h : DG X e t) (k : DGs X es ts) (h1 : assignEach (e :: es) X.env = (false, assign e X.env) :: assignEach es X.env := by rfl) : DGs X (e :: es) (t :: ts) :=
  ⟨by rw [h1]; simp [k.len], by rw [h1, List.findIdx?_cons]; simp [k.fin], by rw [gTs]; exact pgs_cons h.pg k.pgs (by rw [h1]; rfl)⟩
theorem pg_sq {es : List Expr} {k : Nat} {t : TGs} {n : Nat} {pos} (hc : X.calm = true) (h : PGs X es t)
    (hn : (assignEach es X.env).length = n) (hst : (assignEach es X.env).findIdx? (·.1) = none) : PG X (.Tuple es k pos) (gSq X.K n t) :=
  ⟨fun pins s σ H v u Q I r hw => by
    rcases hw with hw | hw
    · exact (pg_tup hc h hn hst).run pins s σ H v u Q I r hw
    · exact (pg_lst hc h hn hst).run pins s σ H v u Q I r hw⟩
theorem dg_tup {es : List Expr} {ts : List Tg} {k : Nat} {pos} (hc : X.calm = true) (h : DGs X es ts) : DG X (.Tuple es k pos) (.tup ts) :=
  ⟨by rw [gT]; exact pg_sq hc h.pgs h.len h.fin⟩
end

/-! ### assignments -/
def sAsg (t : Tg) (f : BE) : BS := fun env S => thenS (f env S) env fun a S' => match asg S' t a env with
  | some env' => .next env' S'
  | none => .no
def sSet (i : Nat) (f : BE) : BS := fun env S => thenS (f env S) env fun a S' => .next (env.set i (some a)) S'
section
variable {X : Cx} {T : Tb} {E : XKs}
theorem ds_asg {tg e : Expr} {t : Tg} {f : BE} {pos} (he : DE X T E e f) (hg : DG X tg t) (hs : swapsWithSole [tg] e pos.line X.env = pure false := by rfl) (hw : swappedStores [tg] e X.env = pure none := by rfl)
    (h1 : (assignEach [tg] X.env).map (·.2) = [assign tg X.env] := by rfl) : DS X T E (.Assign [tg] e pos) (sAsg t f) := by
  refine ⟨(ps_asg he.pe hg.pg hs hw h1).monoZ fun Dn σ H ⟨env, S, O, re, so, q⟩ => ⟨env, S, O, re, so, PoS.bind re q fun a S1 O1 H1 b l s r q1 => ?_⟩⟩
  cases e1 : asg S1 t a env with
  | none => rw [e1] at q1; exact q1.elim
  | some env' =>
    rw [e1] at q1
    exact gT_ok t (re.mono l) r e1 fun σ' re' _ => q1 O1 H1 σ' Le.refl s re'
theorem ds_set (i : Nat) {x : Str} {e : Expr} {f : BE} {pos pos'} (hN : X.N.Nodup) (he : DE X T E e f) (hi : X.N[i]? = some x := by rfl) (hx : Loc X.env.scope x := by first | exact Or.inl rfl | exact Or.inr rfl) (hs : swapsWith e (some (.Name x pos')) pos.line X.env = pure false := by rfl)
    (hf : X.fn x = true ∨ X.env.scope.names.lookup x = some .local := by first | exact .inl rfl | exact .inr rfl) : DS X T E (.Assign [.Name x pos'] e pos) (sSet i f) :=
  ⟨(ps_set hN hi hx he.pe hs hf).monoZ fun Dn σ H ⟨env, S, O, re, so, q⟩ => ⟨env, S, O, re, so, PoS.bind re q fun a S1 O1 H1 b l s r q1 => q1 O1 H1 _ Le.refl s ((re.mono l).set r)⟩⟩
/-- a, b = x, y of plain locals: the stores are swapped, the pair is not made -/
def sPar (i j : Nat) (f g : BE) : BS := fun env S => thenS (f env S) env fun a S1 => thenS (g env S1) env fun b S2 => .next ((env.set i (some a)).set j (some b)) S2
theorem ds_par (i j : Nat) {x y : Str} {a b : Expr} {f g : BE} {px py pt pos : Pos} {kt k2 pt2} (hc : X.calm = true) (hN : X.N.Nodup) (ha : DE X T E a f) (hb : DE X T E b g)
    (hi : X.N[i]? = some x := by rfl) (hj : X.N[j]? = some y := by rfl) (hij : i ≠ j := by decide)
    (hx : X.env.scope.names.lookup x = some .local := by rfl) (hy : X.env.scope.names.lookup y = some .local := by rfl)
    (hw : swappedStores [.Tuple [.Name x px, .Name y py] kt pt] (.Tuple [a, b] k2 pt2) X.env = pure (some [x, y]) := by rfl)
    (hs : swapsWithSole [.Tuple [.Name x px, .Name y py] kt pt] (.Tuple [a, b] k2 pt2) pos.line X.env = pure false := by rfl)
    (h1 : starEach [a, b] X.env = (false, eval a X.env) :: starEach [b] X.env := by rfl) (h2 : starEach [b] X.env = [(false, eval b X.env)] := by rfl) :
    DS X T E (.Assign [.Tuple [.Name x px, .Name y py] kt pt] (.Tuple [a, b] k2 pt2) pos) (sPar i j f g) :=
  ⟨(ps_par hc hN hi hj hij hx hy (da_cons ha (da_cons hb da_nil (by rw [h2]; rfl)) h1).pa hw hs).monoZ fun Dn σ H ⟨env, S, O, re, so, q⟩ => ⟨env, S, O, re, so, by
    unfold sPar at q
    show Po _ _ _ _ ((f env >>= fun a => (g env >>= fun as => pure [as]) >>= fun as => pure (a :: as)) S) O H _ _
    rw [bd_ap]
    cases e1 : f env S with
    | err c S1 =>
      rw [e1] at q
      exact fun O1 H1 C l s e => q O1 H1 σ C l s (re.mono l) e
    | no => rw [e1] at q; exact q
    | ok a S1 =>
      rw [e1] at q
      dsimp only [thenS] at q ⊢
      rw [bd_ap, bd_ap]
      cases e2 : g env S1 with
      | err c S2 =>
        rw [e2] at q
        exact fun O1 H1 C l s e => q O1 H1 σ C l s (re.mono l) e
      | no => rw [e2] at q; exact q
      | ok b S2 =>
        rw [e2] at q
        dsimp only [pure_ap] at q ⊢
        intro O1 H1 vs l s r
        cases r with
        | cons r1 r2 =>
          cases r2 with
          | cons r2 r3 =>
            cases r3
            exact ⟨_, _, rfl, q O1 H1 _ l s (((re.mono l).set r1).set r2)⟩⟩⟩
end
end Z
end
section
set_option maxHeartbeats 4000000
namespace Z
open PySem PySem.Spec PyProof.Rows L2

/-! ### equality -/
mutual
def eqD : D → D → Bool
  | .none, .none => true
  | .bool a, .bool b => a == b
  | .bool a, .int j => (if a then 1 else 0) == j
  | .int i, .bool b => i == (if b then 1 else 0)
  | .int i, .int j => i == j
  | .str x, .str y => x == y
  | .list xs, .list ys => eqDs xs ys
  | .tuple xs, .tuple ys => eqDs xs ys
  | _, _ => false
def eqDs : List D → List D → Bool
  | [], [] => true
  | x :: xs, y :: ys => eqD x y && eqDs xs ys
  | _, _ => false
end
mutual
/-- plain data, nested at most n deep -/
def okD : Nat → D → Bool
  | _, .none => true
  | _, .bool _ => true
  | _, .int _ => true
  | _, .str x => PyData.strOk x
  | n + 1, .list xs => okDs n xs
  | n + 1, .tuple xs => okDs n xs
  | _, _ => false
def okDs : Nat → List D → Bool
  | _, [] => true
  | n, x :: xs => okD n x && okDs n xs
end
mutual
def py : D → PyData
  | .none => .none
  | .bool b => .bool b
  | .int i => .int i
  | .str x => .str x
  | .list xs => .list (pys xs)
  | .tuple xs => .tuple (pys xs)
  | .cell _ => .none
  | .fn _ => .none
  | .adr _ => .none
  | .frz _ => .none
def pys : List D → List PyData
  | [] => []
  | x :: xs => py x :: pys xs
end
mutual
theorem okD_mono {m n : Nat} (h : m ≤ n) : ∀ d : D, okD m d = true → okD n d = true
  | .none, _ => by cases n <;> rfl
  | .bool _, _ => by cases n <;> rfl
  | .int _, _ => by cases n <;> rfl
  | .str x, e => by
    have e' : PyData.strOk x = true := by cases m <;> exact e
    cases n <;> exact e'
  | .list xs, e => by
    cases m with
    | zero => simp [okD] at e
    | succ m =>
      cases n with
      | zero => omega
      | succ n => exact okDs_mono (by omega) xs e
  | .tuple xs, e => by
    cases m with
    | zero => simp [okD] at e
    | succ m =>
      cases n with
      | zero => omega
      | succ n => exact okDs_mono (by omega) xs e
  | .cell _, e => by cases m <;> simp [okD] at e
  | .fn _, e => by cases m <;> simp [okD] at e
  | .adr _, e => by cases m <;> simp [okD] at e
  | .frz _, e => by cases m <;> simp [okD] at e
theorem okDs_mono {m n : Nat} (h : m ≤ n) : ∀ ds : List D, okDs m ds = true → okDs n ds = true
  | [], _ => by cases n <;> rfl
  | x :: xs, e => by
    have e' : (okD m x && okDs m xs) = true := by cases m <;> exact e
    rw [Bool.and_eq_true] at e'
    have r : (okD n x && okDs n xs) = true := by rw [okD_mono h x e'.1, okDs_mono h xs e'.2]; rfl
    cases n <;> exact r
end
theorem okDs_cons {n : Nat} {x : D} {xs : List D} : okDs n (x :: xs) = (okD n x && okDs n xs) := by cases n <;> rfl
mutual
theorem ok_py {n : Nat} : ∀ d : D, okD n d = true → PyData.canLay0 (py d) = true ∧ PyData.depth (py d) ≤ n
  | .none, _ => by simp [py, PyData.canLay0, PyData.depth]
  | .bool _, _ => by simp [py, PyData.canLay0, PyData.depth]
  | .int _, _ => by simp [py, PyData.canLay0, PyData.depth]
  | .str x, e => by
    have e' : PyData.strOk x = true := by cases n <;> exact e
    simp [py, PyData.canLay0, PyData.depth, e']
  | .list xs, e => by
    cases n with
    | zero => simp [okD] at e
    | succ n =>
      have := ok_pys xs (show okDs n xs = true from e)
      simp only [py, PyData.canLay0, PyData.depth]
      exact ⟨this.1, by omega⟩
  | .tuple xs, e => by
    cases n with
    | zero => simp [okD] at e
    | succ n =>
      have := ok_pys xs (show okDs n xs = true from e)
      simp only [py, PyData.canLay0, PyData.depth]
      exact ⟨this.1, by omega⟩
  | .cell _, e => by cases n <;> simp [okD] at e
  | .fn _, e => by cases n <;> simp [okD] at e
  | .adr _, e => by cases n <;> simp [okD] at e
  | .frz _, e => by cases n <;> simp [okD] at e
theorem ok_pys {n : Nat} : ∀ ds : List D, okDs n ds = true → PyData.canLayAll0 (pys ds) = true ∧ PyData.depthAll (pys ds) ≤ n
  | [], _ => by simp [pys, PyData.canLayAll0, PyData.depthAll]
  | x :: xs, e => by
    rw [okDs_cons, Bool.and_eq_true] at e
    have h1 := ok_py x e.1
    have h2 := ok_pys xs e.2
    simp only [pys, PyData.canLayAll0, PyData.depthAll]
    exact ⟨by rw [h1.1, h2.1]; rfl, by omega⟩
end
theorem ok_shaped {d : D} (h : okD 64 d = true) : SeqAt.shaped (py d) = true := by
  have := ok_py d h
  show (PyData.canLay0 (py d) && decide (PyData.depth (py d) ≤ 64)) = true
  rw [this.1, decide_eq_true this.2]
  rfl
mutual
theorem eq_py {n : Nat} : ∀ a b : D, okD n a = true → okD n b = true → PyData.eqv (py a) (py b) = eqD a b
  | .none, b, _, hb => by cases b <;> simp [py, PyData.eqv, eqD, okD] at *
  | .bool _, b, _, hb => by cases b <;> simp [py, PyData.eqv, eqD, okD] at *
  | .int _, b, _, hb => by cases b <;> simp [py, PyData.eqv, eqD, okD] at *
  | .str _, b, _, hb => by cases b <;> simp [py, PyData.eqv, eqD, okD] at *
  | .list xs, b, ha, hb => by
    cases b with
    | list ys =>
      cases n with
      | zero => simp [okD] at ha
      | succ n =>
        simp only [py, PyData.eqv, eqD]
        exact eq_pys xs ys ha hb
    | cell _ => cases n <;> simp [okD] at hb
    | fn _ => cases n <;> simp [okD] at hb
    | adr _ => cases n <;> simp [okD] at hb
    | frz _ => cases n <;> simp [okD] at hb
    | _ => simp [py, PyData.eqv, eqD]
  | .tuple xs, b, ha, hb => by
    cases b with
    | tuple ys =>
      cases n with
      | zero => simp [okD] at ha
      | succ n =>
        simp only [py, PyData.eqv, eqD]
        exact eq_pys xs ys ha hb
    | cell _ => cases n <;> simp [okD] at hb
    | fn _ => cases n <;> simp [okD] at hb
    | adr _ => cases n <;> simp [okD] at hb
    | frz _ => cases n <;> simp [okD] at hb
    | _ => simp [py, PyData.eqv, eqD]
  | .cell _, _, ha, _ => by cases n <;> simp [okD] at ha
  | .fn _, _, ha, _ => by cases n <;> simp [okD] at ha
  | .adr _, _, ha, _ => by cases n <;> simp [okD] at ha
  | .frz _, _, ha, _ => by cases n <;> simp [okD] at ha
theorem eq_pys {n : Nat} : ∀ a b : List D, okDs n a = true → okDs n b = true → PyData.eqvAll (pys a) (pys b) = eqDs a b
  | [], [], _, _ => by simp [pys, PyData.eqvAll, eqDs]
  | [], _ :: _, _, _ => by simp [pys, PyData.eqvAll, eqDs]
  | _ :: _, [], _, _ => by simp [pys, PyData.eqvAll, eqDs]
  | x :: xs, y :: ys, ha, hb => by
    rw [okDs_cons, Bool.and_eq_true] at ha hb
    simp only [pys, PyData.eqvAll, eqDs]
    rw [eq_py x y ha.1 hb.1, eq_pys xs ys ha.2 hb.2]
end
section
variable {K : PySem.W.Frag} {mg : Str → Option Value} {O : List Addr} {G : Hp}
mutual
theorem dp_of {n : Nat} : ∀ {d : D} {v : V}, Rp K mg O G v d → okD n d = true → Dp K G v (py d)
  | _, _, .non, _ => by rw [py]; exact .non
  | _, _, .bl b, _ => by rw [py]; exact .bl b
  | _, _, .int i, _ => by rw [py]; exact .int i
  | _, _, .str x, _ => by rw [py]; exact .str x
  | _, _, .lst h t, e => by
    cases n with
    | zero => simp [okD] at e
    | succ n =>
      rw [py]
      exact .lst (.inl (.inl h)) (dps_of t (show okDs n _ = true from e))
  | _, _, .tup h t, e => by
    cases n with
    | zero => simp [okD] at e
    | succ n =>
      rw [py]
      exact .tup h (dps_of t (show okDs n _ = true from e))
  | _, _, .cell _, e => by cases n <;> simp [okD] at e
  | _, _, .fn _, e => by cases n <;> simp [okD] at e
  | _, _, .adr _, e => by cases n <;> simp [okD] at e
  | _, _, .frz _ _, e => by cases n <;> simp [okD] at e
theorem dps_of {n : Nat} : ∀ {ds : List D} {vs : List V}, Rps K mg O G vs ds → okDs n ds = true → DpAll K G vs (pys ds)
  | _, _, .nil, _ => by rw [pys]; exact .nil
  | _, _, .cons h t, e => by
    rw [okDs_cons, Bool.and_eq_true] at e
    rw [pys]
    exact .cons (dp_of h e.1) (dps_of t e.2)
end
mutual
theorem Dp.same {H H' : Hp} (s : Same H H') : ∀ {d : PyData} {v : V}, Dp K H v d → Dp K H' v d
  | _, _, .non => .non
  | _, _, .bl b => .bl b
  | _, _, .int i => .int i
  | _, _, .str x => .str x
  | _, _, .lst h t => .lst (s.seq h) (DpAll.same s t)
  | _, _, .tup h t => .tup (Same.seqT s h) (DpAll.same s t)
theorem DpAll.same {H H' : Hp} (s : Same H H') : ∀ {d : List PyData} {v : List V}, DpAll K H v d → DpAll K H' v d
  | _, _, .nil => .nil
  | _, _, .cons h t => .cons (Dp.same s h) (DpAll.same s t)
end
end

/-! ### what a value shows -/
/-- the list that a cell holds now -/
def rd (d : D) : M D := fun S => match d with
  | .cell n => match S[n]? with
    | some (.lst ds) => .ok (.list ds) S
    | .none => .no
  | d => .ok d S
section
variable (K : PySem.W.Frag) (mg : Str → Option Value) (O : Ow) (H : Hp)
inductive Seen : V → D → Prop
  | of {v : V} {d : D} : Rp K mg O.cs (hide O H) v d → (∀ n, d ≠ .cell n) → Seen v d
  | cell {a : Addr} {vs : List V} {ds : List D} : H a = some (.lst vs) → Rps K mg O.cs (hide O H) vs ds → Seen (.ref a) (.list ds)
end
section
variable {K : PySem.W.Frag} {mg : Str → Option Value} {T : Tb} {O : Ow} {H : Hp} {S : Store}
theorem rd_ok {d d' : D} {v : V} {S' : Store} (so : SOk K mg T O H S) (r : Rp K mg O.cs (hide O H) v d) (e : rd d S = .ok d' S') : Seen K mg O H v d' ∧ S' = S := by
  cases r with
  | cell h =>
    unfold rd at e
    dsimp only at e
    split at e
    · rename_i ds hs
      cases e
      obtain ⟨vs, h1, h2⟩ := sok_cell so h hs
      exact ⟨.cell h1 h2, rfl⟩
    · cases e
  | non => cases e; exact ⟨.of .non (by intro n z; cases z), rfl⟩
  | bl b => cases e; exact ⟨.of (.bl b) (by intro n z; cases z), rfl⟩
  | int b => cases e; exact ⟨.of (.int b) (by intro n z; cases z), rfl⟩
  | str b => cases e; exact ⟨.of (.str b) (by intro n z; cases z), rfl⟩
  | lst h t => cases e; exact ⟨.of (.lst h t) (by intro n z; cases z), rfl⟩
  | tup h t => cases e; exact ⟨.of (.tup h t) (by intro n z; cases z), rfl⟩
  | frz h t => cases e; exact ⟨.of (.frz h t) (by intro n z; cases z), rfl⟩
  | fn h => cases e; exact ⟨.of (.fn h) (by intro n z; cases z), rfl⟩
  | adr h => cases e; exact ⟨.of (.adr h) (by intro n z; cases z), rfl⟩
theorem rd_po {α β : Type} {R : List Addr → Hp → β → α → Prop} {d : D} {v : V} {f : D → M α} {Q : β → Hp → Prop} {E : XK} (so : SOk K mg T O H S) (r : Rp K mg O.cs (hide O H) v d) (h : Po K mg T R ((rd d >>= f) S) O H Q E) :
    ∃ d', Seen K mg O H v d' ∧ Po K mg T R (f d' S) O H Q E := by
  rw [bd_ap] at h
  cases e : rd d S with
  | no => rw [e] at h; exact h.elim
  | err c S' =>
    exfalso
    unfold rd at e
    split at e
    · split at e <;> cases e
    · cases e
  | ok d' S' =>
    rw [e] at h
    obtain ⟨h1, rfl⟩ := rd_ok so r e
    exact ⟨d', h1, h⟩
theorem same_hide : ∀ b o, hide O H b = some o → H b = some o := fun b o e => (hide_le e).2.1
theorem Seen.list {v : V} {ds : List D} (h : Seen K mg O H v (.list ds)) : ∃ a vs, v = .ref a ∧ H a = some (.lst vs) ∧ Rps K mg O.cs (hide O H) vs ds := by
  cases h with
  | of r _ => cases r with
    | lst h t => exact ⟨_, _, rfl, (hide_le h).2.1, t⟩
  | cell h t => exact ⟨_, _, rfl, h, t⟩
theorem Seen.tuple {v : V} {ds : List D} (h : Seen K mg O H v (.tuple ds)) : ∃ a vs, v = .ref a ∧ SqT K H a vs ∧ Rps K mg O.cs (hide O H) vs ds ∧ Rp K mg O.cs (hide O H) v (.tuple ds) := by
  cases h with
  | of r _ => cases r with
    | tup h t => exact ⟨_, _, rfl, st_le h, t, .tup h t⟩
theorem Seen.frz {v : V} {ds : List D} (h : Seen K mg O H v (.frz ds)) : ∃ a vs, v = .ref a ∧ SqL K H a vs ∧ Rps K mg O.cs (hide O H) vs ds := by
  cases h with
  | of r _ => cases r with
    | frz h t => exact ⟨_, _, rfl, sl_le h, t⟩
theorem Seen.int {v : V} {i : Int} (h : Seen K mg O H v (.int i)) : v = .int i := by
  cases h with
  | of r _ => cases r; rfl
theorem Seen.bl {v : V} {i : Bool} (h : Seen K mg O H v (.bool i)) : v = .bl i := by
  cases h with
  | of r _ => cases r; rfl
theorem Seen.str {v : V} {i : Str} (h : Seen K mg O H v (.str i)) : v = .str i := by
  cases h with
  | of r _ => cases r; rfl
theorem Seen.non {v : V} (h : Seen K mg O H v .none) : v = .non := by
  cases h with
  | of r _ => cases r; rfl
theorem Seen.dp {v : V} {d : D} {n : Nat} (h : Seen K mg O H v d) (e : okD n d = true) : Dp K H v (py d) := by
  cases h with
  | of r _ => exact Dp.same same_hide (dp_of r e)
  | cell h t =>
    cases n with
    | zero => simp [okD] at e
    | succ n =>
      rw [py]
      exact .lst (.inl (.inl h)) (DpAll.same same_hide (dps_of t (show okDs n _ = true from e)))
end
/-- two values seen -/
def g2 (g : D → D → M D) : D → D → M D := fun a b => rd a >>= fun a' => rd b >>= fun b' => g a' b'
def OpS (X : Cx) (T : Tb) (r : R2) (g : D → D → M D) : Prop := ∀ O H S x y a b Q E, SOk X.K X.mg T O H S → Seen X.K X.mg O H x a → Seen X.K X.mg O H y b → Po X.K X.mg T (Rp X.K X.mg) (g a b S) O H Q E → r x y H Q
theorem OpS.op {X : Cx} {T : Tb} {r : R2} {g : D → D → M D} (h : OpS X T r g) : Op2 X T r (g2 g) := fun O H S x y a b Q E so ra rb q => by
  obtain ⟨a', sa, q1⟩ := rd_po so ra q
  obtain ⟨b', sb, q2⟩ := rd_po so rb q1
  exact h O H S x y a' b' Q E so sa sb q2
def g1 (g : D → M D) : D → M D := fun a => rd a >>= g
def UnS (X : Cx) (T : Tb) (r : V → Hp → VK → Prop) (g : D → M D) : Prop := ∀ O H S x a Q E, SOk X.K X.mg T O H S → Seen X.K X.mg O H x a → Po X.K X.mg T (Rp X.K X.mg) (g a S) O H Q E → r x H Q
theorem UnS.op {X : Cx} {T : Tb} {r : V → Hp → VK → Prop} {g : D → M D} (h : UnS X T r g) : Op1 X T r (g1 g) := fun O H S x a Q E so ra q => by
  obtain ⟨a', sa, q1⟩ := rd_po so ra q
  exact h O H S x a' Q E so sa q1

/-! ### the operators -/
def gEq (a b : D) : M D := if okD 64 a = true ∧ okD 64 b = true then pure (.bool (eqD a b)) else no
def gNe (a b : D) : M D := if okD 64 a = true ∧ okD 64 b = true then pure (.bool (!eqD a b)) else no
def b2n (b : Bool) : Int := if b = true then 1 else 0
def gAdd (a b : D) : M D := match a, b with
  | .int i, .int j => pure (.int (i + j))
  | .bool i, .int j => pure (.int (b2n i + j))
  | .str x, .str y => if x.length + y.length ≤ 1000000 then pure (.str (x ++ y)) else no
  | .tuple xs, .tuple ys => if xs.length + ys.length ≤ 1000000 then pure (.tuple (xs ++ ys)) else no
  | .list xs, .list ys => if xs.length + ys.length ≤ 1000000 then pure (.list (xs ++ ys)) else no
  | _, _ => no
def gSub (a b : D) : M D := match a, b with
  | .int i, .int j => pure (.int (i - j))
  | .bool i, .int j => pure (.int (b2n i - j))
  | _, _ => no
def small (i : Int) : Bool := decide (i.natAbs < 2 ^ 4000)
def gMul (a b : D) : M D := match a, b with
  | .int i, .int j => if small i = true ∧ small j = true then pure (.int (i * j)) else no
  | _, _ => no
def gDiv (a b : D) : M D := match a, b with
  | .int i, .int j => if 0 < j ∧ small j = true then pure (.int (i / j)) else no
  | _, _ => no
def gMod (a b : D) : M D := match a, b with
  | .int i, .int j => if 0 < j then pure (.int (i % j)) else no
  | _, _ => no
def gCmp (p : Int → Int → Bool) (a b : D) : M D := match a, b with
  | .int i, .int j => pure (.bool (p i j))
  | _, _ => no
abbrev gLt := gCmp fun i j => decide (i < j)
abbrev gLe := gCmp fun i j => decide (i ≤ j)
abbrev gGt := gCmp fun i j => decide (j < i)
abbrev gGe := gCmp fun i j => decide (j ≤ i)
def gNeg (a : D) : M D := match a with
  | .int i => pure (.int (-i))
  | _ => no
theorem small_lt {i : Int} (h : small i = true) : i.natAbs < 2 ^ 4000 := of_decide_eq_true h
section
variable {X : Cx} {T : Tb}
theorem op_or {f : Value → Value → Sem Value} {r r' : R2} (h : OpR X f r) (h' : OpR X f r') : OpR X f (fun x y H Q => r x y H Q ∨ r' x y H Q) := OpR.or h h'
theorem s_eq : OpS X T (rEqD X.K) gEq := fun O H S x y a b Q E so sa sb q => by
  unfold gEq at q
  split at q
  · rename_i h
    exact ⟨_, _, sa.dp h.1, sb.dp h.2, ok_shaped h.1, ok_shaped h.2, by rw [eq_py a b h.1 h.2]; exact q O H _ Le.refl so (.bl _)⟩
  · exact q.elim
theorem s_ne : OpS X T (rNeD X.K) gNe := fun O H S x y a b Q E so sa sb q => by
  unfold gNe at q
  split at q
  · rename_i h
    exact ⟨_, _, sa.dp h.1, sb.dp h.2, ok_shaped h.1, ok_shaped h.2, by rw [eq_py a b h.1 h.2]; exact q O H _ Le.refl so (.bl _)⟩
  · exact q.elim
def rBlI (g : Int → Int → Int) : R2 := fun x y H Q => ∃ i j, x = .bl i ∧ y = .int j ∧ Q (.int (g (b2n i) j)) H
theorem op_addBI : OpR X (binaryOp .Add) (rBlI (· + ·)) := by
  intro pins s σ H x y v u Q I rx ry h
  obtain ⟨i, j, rfl, rfl, q⟩ := h
  cases rx
  obtain ⟨t, rfl⟩ := ry
  exact PySem.IntBool.add_bool_int ⟨.int (b2n i + j), H, I.tok _, ⟨_, rfl⟩, q⟩
theorem op_subBI : OpR X (binaryOp .Sub) (rBlI (· - ·)) := by
  intro pins s σ H x y v u Q I rx ry h
  obtain ⟨i, j, rfl, rfl, q⟩ := h
  cases rx
  obtain ⟨t, rfl⟩ := ry
  exact PySem.IntBool.sub_bool_int ⟨.int (b2n i - j), H, I.tok _, ⟨_, rfl⟩, q⟩
def rSubZ : R2 := fun x y H Q => rI0 (fun i j => .int (i - j)) x y H Q ∨ rBlI (· - ·) x y H Q
theorem op_subZ : OpR X (binaryOp .Sub) rSubZ := OpR.or op_sub op_subBI
def rAddZ (K : PySem.W.Frag) : R2 := fun x y H Q => ((rI0 (fun i j => .int (i + j)) x y H Q ∨ rBlI (· + ·) x y H Q) ∨ (∃ i j, x = .str i ∧ y = .str j ∧ i.length + j.length ≤ sizeLine ∧ Q (.str (i ++ j)) H)) ∨ (rCatA K x y H Q ∨ rCat x y H Q)
theorem op_addZ : OpR X (binaryOp .Add) (rAddZ X.K) := OpR.or (OpR.or (OpR.or op_add op_addBI) op_add_str) (OpR.or op_catA op_cat)
theorem cat_goal {O : Ow} {H : Hp} {S : Store} {a b : Addr} {vs us : List V} {xs ys : List D} {Q : VK} {Ex : XK} (so : SOk X.K X.mg T O H S) (t1 : Rps X.K X.mg O.cs (hide O H) vs xs) (t2 : Rps X.K X.mg O.cs (hide O H) us ys)
    (ra : Rp X.K X.mg O.cs (hide O H) (.ref a) (.tuple xs)) (rb : Rp X.K X.mg O.cs (hide O H) (.ref b) (.tuple ys)) (q : Po X.K X.mg T (Rp X.K X.mg) (.ok (.tuple (xs ++ ys)) S) O H Q Ex) :
    (vs = [] → Q (.ref b) H) ∧ (vs ≠ [] → us = [] → Q (.ref a) H) ∧ (vs ≠ [] → us ≠ [] → ∀ p, H p = none → Q (.ref p) (upd H p (.tup (vs ++ us)))) := by
  refine ⟨fun e => ?_, fun _ e => ?_, fun _ _ => new_tup so (t1.app t2) q⟩
  · subst e
    cases t1
    exact q O H _ Le.refl so rb
  · subst e
    cases t2
    rw [List.append_nil] at q
    exact q O H _ Le.refl so ra
theorem s_add : OpS X T (rAddZ X.K) gAdd := fun O H S x y a b Q E so sa sb q => by
  unfold gAdd at q
  split at q
  · exact .inl (.inl (.inl ⟨_, _, sa.int, sb.int, q O H _ Le.refl so (.int _)⟩))
  · exact .inl (.inl (.inr ⟨_, _, sa.bl, sb.int, q O H _ Le.refl so (.int _)⟩))
  · split at q
    · rename_i h
      exact .inl (.inr ⟨_, _, sa.str, sb.str, small_len h, q O H _ Le.refl so (.str _)⟩)
    · exact q.elim
  · split at q
    · rename_i h
      obtain ⟨p1, v1, rfl, h1, t1, r1⟩ := sa.tuple
      obtain ⟨p2, v2, rfl, h2, t2, r2⟩ := sb.tuple
      exact .inr (.inl ⟨_, _, _, _, rfl, rfl, h1, h2, by rw [t1.length, t2.length]; exact small_len h, cat_goal so t1 t2 r1 r2 q⟩)
    · exact q.elim
  · split at q
    · rename_i h
      obtain ⟨p1, v1, rfl, h1, t1⟩ := sa.list
      obtain ⟨p2, v2, rfl, h2, t2⟩ := sb.list
      exact .inr (.inr ⟨_, _, _, _, rfl, rfl, h1, h2, by rw [t1.length, t2.length]; exact small_len h, new_lst so (t1.app t2) q⟩)
    · exact q.elim
  · exact q.elim
/-- + of two lists, the new one going to change -/
def gAddC (a b : D) : M D := match a, b with
  | .list xs, .list ys => if xs.length + ys.length ≤ 1000000 then newCell (xs ++ ys) else no
  | _, _ => no
theorem s_addC : OpS X T rCat gAddC := fun O H S x y a b Q E so sa sb q => by
  unfold gAddC at q
  split at q
  · rename_i xs ys
    by_cases h : xs.length + ys.length ≤ 1000000
    · rw [if_pos h] at q
      obtain ⟨p1, v1, rfl, h1, t1⟩ := sa.list
      obtain ⟨p2, v2, rfl, h2, t2⟩ := sb.list
      exact ⟨_, _, _, _, rfl, rfl, h1, h2, by rw [t1.length, t2.length]; exact small_len h, new_cell so (t1.app t2) q⟩
    · rw [if_neg h] at q
      exact q.elim
  · exact q.elim
theorem s_sub : OpS X T rSubZ gSub := fun O H S x y a b Q E so sa sb q => by
  unfold gSub at q
  split at q
  · exact .inl ⟨_, _, sa.int, sb.int, q O H _ Le.refl so (.int _)⟩
  · exact .inr ⟨_, _, sa.bl, sb.int, q O H _ Le.refl so (.int _)⟩
  · exact q.elim
theorem s_mul : OpS X T (rI CMulW fun i j => .int (i * j)) gMul := fun O H S x y a b Q E so sa sb q => by
  unfold gMul at q
  split at q
  · split at q
    · rename_i h
      exact ⟨_, _, sa.int, sb.int, wide_mul (small_lt h.1) (small_lt h.2) (by decide) (by decide) (by decide), q O H _ Le.refl so (.int _)⟩
    · exact q.elim
  · exact q.elim
theorem s_div : OpS X T (rI CDivW fun i j => .int (i / j)) gDiv := fun O H S x y a b Q E so sa sb q => by
  unfold gDiv at q
  split at q
  · split at q
    · rename_i h
      exact ⟨_, _, sa.int, sb.int, wide_div h.1 (small_lt h.2) (by decide) (by decide), q O H _ Le.refl so (.int _)⟩
    · exact q.elim
  · exact q.elim
theorem s_mod : OpS X T (rI (fun _ j => 0 < j) fun i j => .int (i % j)) gMod := fun O H S x y a b Q E so sa sb q => by
  unfold gMod at q
  split at q
  · split at q
    · rename_i h
      exact ⟨_, _, sa.int, sb.int, h, q O H _ Le.refl so (.int _)⟩
    · exact q.elim
  · exact q.elim
theorem s_cmp {p : Int → Int → Bool} : OpS X T (rI0 fun i j => .bl (p i j)) (gCmp p) := fun O H S x y a b Q E so sa sb q => by
  unfold gCmp at q
  split at q
  · exact ⟨_, _, sa.int, sb.int, q O H _ Le.refl so (.bl _)⟩
  · exact q.elim
theorem s_neg : UnS X T (rU fun i => .int (-i)) gNeg := fun O H S x a Q E so sa q => by
  unfold gNeg at q
  split at q
  · exact ⟨_, sa.int, q O H _ Le.refl so (.int _)⟩
  · exact q.elim
end

/-! ### in, is -/
def gIn (neg : Bool) (a b : D) : M D := match b with
  | .list xs => if okD 64 a = true ∧ okDs 63 xs = true then pure (.bool (neg ^^ xs.any fun z => eqD z a)) else no
  | .tuple xs => if okD 0 a = true ∧ okDs 0 xs = true then pure (.bool (neg ^^ xs.any fun z => eqD z a)) else no
  | .str y => (match a with
    | .str x => pure (.bool (neg ^^ !(Builtin.Str.occurrences y x 0 y.length 1).isEmpty))
    | _ => no)
  | _ => no
theorem any_py {n : Nat} {a : D} (ha : okD n a = true) : ∀ {xs : List D}, okDs n xs = true → (pys xs).any (fun z => PyData.eqv z (py a)) = xs.any fun z => eqD z a
  | [], _ => rfl
  | x :: xs, h => by
    rw [okDs_cons, Bool.and_eq_true] at h
    simp only [pys, List.any_cons]
    rw [eq_py x a h.1 ha, any_py ha h.2]
section
variable {K : PySem.W.Frag} {mg : Str → Option Value} {O : List Addr} {G : Hp}
theorem flat_of {d : D} {v : V} (r : Rp K mg O G v d) (h : okD 0 d = true) : flatV v = true := by
  cases r <;> first | rfl | simp [okD] at h
theorem flats_of : ∀ {ds : List D} {vs : List V}, Rps K mg O G vs ds → okDs 0 ds = true → vs.all flatV = true
  | _, _, .nil, _ => rfl
  | _, _, .cons r t, h => by
    rw [okDs_cons, Bool.and_eq_true] at h
    rw [List.all_cons, flat_of r h.1, flats_of t h.2]
    rfl
theorem eqV_of {d e : D} {v u : V} (r : Rp K mg O G v d) (s : Rp K mg O G u e) (h : okD 0 d = true) (k : okD 0 e = true) : eqV v u = eqD d e := by
  cases r <;> cases s <;> first
    | rfl
    | (simp [okD] at h; done)
    | (simp [okD] at k; done)
    | (simp [eqV, eqD]; done)
theorem inV_of {e : D} {u : V} (s : Rp K mg O G u e) (k : okD 0 e = true) : ∀ {ds : List D} {vs : List V}, Rps K mg O G vs ds → okDs 0 ds = true → inV u vs = ds.any fun z => eqD z e
  | _, _, .nil, _ => rfl
  | _, _, .cons r t, h => by
    rw [okDs_cons, Bool.and_eq_true] at h
    have ih := inV_of s k t h.2
    unfold inV at ih ⊢
    rw [List.any_cons, List.any_cons, ih, eqV_of r s h.1 k]
end
end Z
end
section
set_option maxHeartbeats 4000000
namespace Z
open PySem PySem.Spec PyProof.Rows L2

/-! ### in, is -/
section
variable {X : Cx} {T : Tb}
def rInZ (K : PySem.W.Frag) (neg : Bool) : R2 := fun x y H Q => ((∃ d ds, Dp K H x d ∧ Dp K H y (.list ds) ∧ SeqAt.shaped d = true ∧ SeqAt.shaped (.list ds) = true ∧ Q (.bl (neg ^^ ds.any fun z => PyData.eqv z d)) H) ∨ rIn K neg x y H Q) ∨
  ∃ i j, x = .str i ∧ y = .str j ∧ Q (.bl (neg ^^ !(Builtin.Str.occurrences j i 0 j.length 1).isEmpty)) H
theorem op_inZ (hu : X.A.units + 65 < cLine) : OpR X (compareOp .In) (rInZ X.K false) := by
  intro pins s σ H x y v u Q I rx ry h
  rcases h with (h | h) | h
  · obtain ⟨d, ds, h1, h2, h3, h4, q⟩ := h
    exact op_inD hu pins s σ H x y v u Q I rx ry ⟨d, ds, h1, h2, h3, h4, by simpa using q⟩
  · exact op_in_seq pins s σ H x y v u Q I rx ry h
  · obtain ⟨i, j, h1, h2, q⟩ := h
    exact op_in_str pins s σ H x y v u Q I rx ry ⟨i, j, h1, h2, by simpa using q⟩
theorem op_ninZ (hu : X.A.units + 65 < cLine) : OpR X (compareOp .NotIn) (rInZ X.K true) := by
  intro pins s σ H x y v u Q I rx ry h
  rcases h with (h | h) | h
  · obtain ⟨d, ds, h1, h2, h3, h4, q⟩ := h
    exact op_notInD hu pins s σ H x y v u Q I rx ry ⟨d, ds, h1, h2, h3, h4, by simpa using q⟩
  · exact op_notIn_seq pins s σ H x y v u Q I rx ry h
  · obtain ⟨i, j, h1, h2, q⟩ := h
    exact op_notin_str pins s σ H x y v u Q I rx ry ⟨i, j, h1, h2, by simpa using q⟩
theorem shaped_list {xs : List D} (h : okDs 63 xs = true) : SeqAt.shaped (.list (pys xs)) = true := by
  have e : py (.list xs) = .list (pys xs) := by rw [py]
  rw [← e]
  exact ok_shaped (show okD 64 (.list xs) = true from h)
theorem s_in {neg : Bool} : OpS X T (rInZ X.K neg) (gIn neg) := fun O H S x y a b Q E so sa sb q => by
  unfold gIn at q
  split at q
  · rename_i xs
    split at q
    · rename_i h
      have hb : okD 64 (.list xs) = true := h.2
      have hd := sb.dp hb
      rw [py] at hd
      exact .inl (.inl ⟨_, _, sa.dp h.1, hd, ok_shaped h.1, shaped_list h.2, by rw [any_py h.1 (okDs_mono (by decide) xs h.2)]; exact q O H _ Le.refl so (.bl _)⟩)
    · exact q.elim
  · rename_i xs
    split at q
    · rename_i h
      obtain ⟨p, vs, rfl, h1, t, _⟩ := sb.tuple
      have ra : Rp X.K X.mg O.cs (hide O H) x a := by
        cases sa with
        | of r _ => exact r
        | cell _ _ => simp [okD] at h
      refine .inl (.inr ⟨p, vs, rfl, .inr h1, flat_of ra h.1, flats_of t h.2, ?_⟩)
      rw [inV_of ra h.1 t h.2]
      have := q O H (.bl (neg ^^ xs.any fun z => eqD z a)) Le.refl so (.bl _)
      cases neg
      · simpa using this
      · simpa using this
    · exact q.elim
  · split at q
    · exact .inr ⟨_, _, sa.str, sb.str, q O H _ Le.refl so (.bl _)⟩
    · exact q.elim
  · exact q.elim
def rIsZ (neg : Bool) : R2 := fun x y H Q => (y = .non ∧ Q (.bl (neg ^^ decide (x = .non))) H) ∨ ∃ a b : Bool, x = .bl a ∧ y = .bl b ∧ Q (.bl (neg ^^ decide (a = b))) H
theorem op_isZ : OpR X (compareOp .Is) (rIsZ false) := by
  intro pins s σ H x y v u Q I rx ry h
  rcases h with ⟨h, q⟩ | ⟨a, b, h1, h2, q⟩
  · exact op_isN pins s σ H x y v u Q I rx ry ⟨h, by simpa using q⟩
  · exact op_isBl pins s σ H x y v u Q I rx ry ⟨a, b, h1, h2, by simpa using q⟩
theorem op_isntZ : OpR X (compareOp .IsNot) (rIsZ true) := by
  intro pins s σ H x y v u Q I rx ry h
  rcases h with ⟨h, q⟩ | ⟨a, b, h1, h2, q⟩
  · exact op_notN pins s σ H x y v u Q I rx ry ⟨h, by simpa using q⟩
  · exact op_notBl pins s σ H x y v u Q I rx ry ⟨a, b, h1, h2, by simpa using q⟩
def isNone : D → Bool
  | .none => true
  | _ => false
def gIs (neg : Bool) (a b : D) : M D := match b with
  | .none => pure (.bool (neg ^^ isNone a))
  | .bool y => (match a with
    | .bool x => pure (.bool (neg ^^ decide (x = y)))
    | _ => no)
  | _ => no
theorem Seen.isNone {K : PySem.W.Frag} {mg : Str → Option Value} {O : Ow} {H : Hp} {x : V} {a : D} (h : Seen K mg O H x a) : decide (x = .non) = isNone a := by
  cases h with
  | of r _ => cases r <;> simp [Z.isNone]
  | cell _ _ => simp [Z.isNone]
theorem s_is {neg : Bool} : OpS X T (rIsZ neg) (gIs neg) := fun O H S x y a b Q E so sa sb q => by
  unfold gIs at q
  split at q
  · exact .inl ⟨sb.non, by rw [sa.isNone]; exact q O H _ Le.refl so (.bl _)⟩
  · split at q
    · exact .inr ⟨_, _, sa.bl, sb.bl, q O H _ Le.refl so (.bl _)⟩
    · exact q.elim
  · exact q.elim

/-! ### items -/
def gIx (a i : D) : M D := match i with
  | .int i => (match a with
    | .tuple xs => ofO (atI xs i)
    | .list xs => ofO (atI xs i)
    | .frz xs => ofO (atI xs i)
    | .str z => if z.length ≤ 1000000 then ofO ((atI z.cps.toList i).map fun c => .str ⟨#[c]⟩) else no
    | _ => no)
  | _ => no
theorem atI_rp {K : PySem.W.Frag} {mg : Str → Option Value} {O : List Addr} {G : Hp} {ds : List D} {vs : List V} {i : Int} {d : D} (t : Rps K mg O G vs ds) (h : atI ds i = some d) : ∃ v, atI vs i = some v ∧ Rp K mg O G v d := by
  unfold atI at h ⊢
  rw [t.length]
  cases e : ixN ds.length i with
  | none => rw [e] at h; cases h
  | some j =>
    rw [e] at h
    exact t.get h
theorem po_ofO {K : PySem.W.Frag} {mg : Str → Option Value} {α β : Type} {R : List Addr → Hp → β → α → Prop} {o : Option α} {S : Store} {O : Ow} {H : Hp} {Q : β → Hp → Prop} {E : XK} (h : Po K mg T R (ofO o S) O H Q E) : ∃ a, o = some a ∧ Po K mg T R (.ok a S) O H Q E := by
  cases o with
  | none => exact h.elim
  | some a => exact ⟨a, rfl, h⟩
theorem s_ix : OpS X T (rIx X.K) gIx := fun O H S x y a b Q E so sa sb q => by
  unfold gIx at q
  split at q
  · split at q
    · obtain ⟨d, h, q1⟩ := po_ofO q
      obtain ⟨p, vs, rfl, h1, t, _⟩ := sa.tuple
      obtain ⟨v, e, r⟩ := atI_rp t h
      exact .inr (.inl ⟨_, _, _, _, rfl, sb.int, h1, e, q1 O H v Le.refl so r⟩)
    · obtain ⟨d, h, q1⟩ := po_ofO q
      obtain ⟨p, vs, rfl, h1, t⟩ := sa.list
      obtain ⟨v, e, r⟩ := atI_rp t h
      exact .inl ⟨_, _, _, _, rfl, sb.int, .inl (.inl h1), e, q1 O H v Le.refl so r⟩
    · obtain ⟨d, h, q1⟩ := po_ofO q
      obtain ⟨p, vs, rfl, h1, t⟩ := sa.frz
      obtain ⟨v, e, r⟩ := atI_rp t h
      exact .inl ⟨_, _, _, _, rfl, sb.int, h1, e, q1 O H v Le.refl so r⟩
    · split at q
      · rename_i hl
        obtain ⟨d, h, q1⟩ := po_ofO q
        obtain ⟨c, hc, e⟩ := Option.map_eq_some_iff.mp h
        subst e
        exact .inr (.inr ⟨_, _, c, sa.str, sb.int, small_len hl, hc, q1 O H _ Le.refl so (.str _)⟩)
      · exact q.elim
    · exact q.elim
  · exact q.elim
/-- a part of a slice -/
abbrev BO := Ev → M (Option Int)
abbrev RO : List Addr → Hp → Option Int → Option Int → Prop := fun _ _ b a => b = a
def tDO (K : PySem.W.Frag) (mg : Str → Option Value) (T : Tb) (E : XKs) (f : BO) : TO := fun σ H Q => ∃ env S O, REnv K mg O.cs (hide O H) σ env ∧ SOk K mg T O H S ∧ Po K mg T RO (f env S) O H Q (E σ)
structure DO (X : Cx) (T : Tb) (E : XKs) (e : Option Expr) (f : BO) : Prop where
  po : PO X e (tDO X.K X.mg T E f)
theorem _root_.L2.PO.monoZ {X : Cx} {e : Option Expr} {t t' : TO} (h : PO X e t) (k : ∀ σ H Q, t' σ H Q → t σ H Q) : PO X e t' := ⟨fun pins s σ H Q I q => h.run pins s σ H Q I (k _ _ _ q)⟩
def oNone : BO := fun _ => pure none
def toInt : D → M (Option Int)
  | .int i => pure (some i)
  | _ => no
def oSome (f : BE) : BO := fun env => f env >>= toInt
variable {E : XKs}
theorem do_none : DO X T E none oNone := ⟨po_none.monoZ fun σ H Q ⟨env, S, O, re, so, q⟩ => q O H none Le.refl so rfl⟩
theorem do_some {e : Expr} {f : BE} (h : DE X T E e f) : DO X T E (some e) (oSome f) := ⟨(po_some h.pe).monoZ fun σ H Q ⟨env, S, O, re, so, q⟩ => ⟨env, S, O, re, so, Po.bind q fun a S1 O1 H1 x l s1 r1 q1 => by
  cases r1 with
  | int i => exact ⟨i, rfl, q1 O1 H1 _ Le.refl s1 rfl⟩
  | _ => exact q1.elim⟩⟩
def cutD (xs : List D) (lo hi : Option Int) : List D := (xs.drop (HT.sIx xs.length 0 lo)).take (HT.sIx xs.length xs.length hi - HT.sIx xs.length 0 lo)
def gSl (a : D) (lo hi : Option Int) : M D := match a with
  | .tuple xs => pure (.tuple (cutD xs lo hi))
  | .list xs => pure (.list (cutD xs lo hi))
  | _ => no
def eSl (f : BE) (lo hi : BO) : BE := fun env => f env >>= fun a => lo env >>= fun l => hi env >>= fun h => rd a >>= fun a' => gSl a' l h
theorem cut_rps {K : PySem.W.Frag} {mg : Str → Option Value} {O : List Addr} {G : Hp} {ds : List D} {vs : List V} {lo hi : Option Int} (t : Rps K mg O G vs ds) : Rps K mg O G (cutV vs lo hi) (cutD ds lo hi) := by
  unfold cutV cutD
  rw [t.length]
  exact (t.drop _).take _
theorem cut_whole {xs : List D} {lo hi : Option Int} (h : HT.sIx xs.length 0 lo = 0 ∧ HT.sIx xs.length xs.length hi = xs.length) : cutD xs lo hi = xs := by
  unfold cutD
  rw [h.1, h.2]
  simp
theorem de_sl {e : Expr} {lo hi : Option Expr} {f : BE} {l h : BO} {p2 pos : Pos} (he : DE X T E e f) (hl : DO X T E lo l) (hh : DO X T E hi h) : DE X T E (.Subscript e (.Slice lo hi none p2) pos) (eSl f l h) :=
  ⟨(pe_slice (SlR.or sl_tupA sl_list) he.pe hl.po hh.po).monoZ fun σ H Q ⟨env, S, O, re, so, q⟩ => ⟨env, S, O, re, so, Po.bind q fun a S1 O1 H1 x l1 s1 r1 q1 =>
    ⟨env, S1, O1, re.mono l1, s1, Po.bind q1 fun lo S2 O2 H2 y l2 s2 r2 q2 =>
      ⟨env, S2, O2, re.mono (l1.trans l2), s2, Po.bind q2 fun hi S3 O3 H3 z l3 s3 r3 q3 => by
        cases r2
        cases r3
        obtain ⟨a', sa, q4⟩ := rd_po s3 (r1.le (l2.trans l3)) q3
        unfold gSl at q4
        split at q4
        · obtain ⟨p, vs, rfl, h1, t, rt⟩ := sa.tuple
          refine .inl ⟨p, vs, rfl, h1, fun hw => ?_, fun _ => new_tup s3 (cut_rps t) q4⟩
          rw [t.length] at hw
          rw [cut_whole hw] at q4
          exact q4 O3 H3 _ Le.refl s3 rt
        · obtain ⟨p, vs, rfl, h1, t⟩ := sa.list
          exact .inr ⟨p, vs, rfl, .inl (.inl h1), new_lst s3 (cut_rps t) q4⟩
        · exact q4.elim⟩⟩⟩⟩
end

/-! ### calls of built-ins -/
section
variable {X : Cx} {T : Tb} {E : XKs}
def CallD (X : Cx) (T : Tb) (r : List V → Hp → VK → Prop) (g : List D → M D) : Prop := ∀ O H S xs as Q E, SOk X.K X.mg T O H S → Rps X.K X.mg O.cs (hide O H) xs as → Po X.K X.mg T (Rp X.K X.mg) (g as S) O H Q E → r xs H Q
def eCB (g : List D → M D) (fs : BA) : BE := fun env => fs env >>= g
theorem t_cb {r : List V → Hp → VK → Prop} {g : List D → M D} {fs : BA} (h : CallD X T r g) : ∀ σ H Q, tD X.K X.mg T E (eCB g fs) σ H Q → tCB r (tDA X.K X.mg T E fs) σ H Q := fun σ H Q ⟨env, S, O, re, so, q⟩ =>
  ⟨env, S, O, re, so, Po.bind q fun as S1 O1 H1 xs l s1 r1 q1 => h O1 H1 S1 xs as Q _ s1 r1 q1⟩
theorem de_callB {x : Str} {id : String} {r : List V → Hp → VK → Prop} {g : List D → M D} {e : Expr} {es : List Expr} {fs : BA} {p pos : Pos} (hc : CallR X (.builtin id) r) (h : CallD X T r g) (hm : X.mg x = none) (hv : bootBuiltins x = some (.builtin id)) (ha : DA X T E (e :: es) fs) (hg : Gl X x := by rfl)
    (hn : x ≠ "__name__" := by decide) (hdb : (x == ("__debug__" : Str)) = false := by decide) (he : starEach (e :: es) X.env = (false, eval e X.env) :: starEach es X.env := by rfl) (hpl : (backTo pos (starEach es X.env)).any (·.1) = false := by rfl) : DE X T E (.Call (.Name x p) (e :: es) [] pos) (eCB g fs) :=
  ⟨(pe_callB hc hg hm hv ha.pa hn hdb he hpl).monoZ (t_cb h)⟩
theorem de_callTy {x : Str} {ty : String} {r : List V → Hp → VK → Prop} {g : List D → M D} {e : Expr} {es : List Expr} {fs : BA} {p pos : Pos} (hc : CallR X (.type ty) r) (h : CallD X T r g) (hm : X.mg x = none) (hv : bootBuiltins x = some (.type ty)) (ha : DA X T E (e :: es) fs) (hg : Gl X x := by rfl)
    (hn : x ≠ "__name__" := by decide) (hdb : (x == ("__debug__" : Str)) = false := by decide) (he : starEach (e :: es) X.env = (false, eval e X.env) :: starEach es X.env := by rfl) (hpl : (backTo pos (starEach es X.env)).any (·.1) = false := by rfl) : DE X T E (.Call (.Name x p) (e :: es) [] pos) (eCB g fs) :=
  ⟨(pe_callTy hc hg hm hv ha.pa hn hdb he hpl).monoZ (t_cb h)⟩
/-- one argument -/
def c1 (g : D → M D) : List D → M D
  | [a] => rd a >>= g
  | _ => no
def c2 (g : D → D → M D) : List D → M D
  | [a, b] => rd a >>= fun a' => rd b >>= fun b' => g a' b'
  | _ => no
theorem cd1 {r : List V → Hp → VK → Prop} {g : D → M D} (h : ∀ O H S x a Q E, SOk X.K X.mg T O H S → Seen X.K X.mg O H x a → Po X.K X.mg T (Rp X.K X.mg) (g a S) O H Q E → r [x] H Q) : CallD X T r (c1 g) := fun O H S xs as Q E so rs q => by
  match as, rs, q with
  | [], _, q => exact q.elim
  | [a], .cons ra .nil, q =>
    obtain ⟨a', sa, q1⟩ := rd_po so ra q
    exact h O H S _ a' Q E so sa q1
  | _ :: _ :: _, _, q => exact q.elim
theorem cd2 {r : List V → Hp → VK → Prop} {g : D → D → M D} (h : ∀ O H S x y a b Q E, SOk X.K X.mg T O H S → Seen X.K X.mg O H x a → Seen X.K X.mg O H y b → Po X.K X.mg T (Rp X.K X.mg) (g a b S) O H Q E → r [x, y] H Q) : CallD X T r (c2 g) := fun O H S xs as Q E so rs q => by
  match as, rs, q with
  | [], _, q => exact q.elim
  | [_], _, q => exact q.elim
  | [a, b], .cons ra (.cons rb .nil), q =>
    obtain ⟨a', sa, q1⟩ := rd_po so ra q
    obtain ⟨b', sb, q2⟩ := rd_po so rb q1
    exact h O H S _ _ a' b' Q E so sa sb q2
  | _ :: _ :: _ :: _, _, q => exact q.elim
/-- len -/
def gLen (a : D) : M D := match a with
  | .tuple xs => pure (.int xs.length)
  | .list xs => pure (.int xs.length)
  | .frz xs => pure (.int xs.length)
  | .str z => if z.length ≤ 1000000 then pure (.int z.length) else no
  | _ => no
theorem d_len : CallD X T (fun xs H Q => ∃ x n, xs = [x] ∧ LenV X.K x H n ∧ Q (.int n) H) (c1 gLen) := cd1 fun O H S x a Q E so sa q => by
  unfold gLen at q
  split at q
  · obtain ⟨p, vs, rfl, h1, t, _⟩ := sa.tuple
    exact ⟨_, _, rfl, .inr ⟨vs, h1, rfl⟩, by rw [t.length]; exact q O H _ Le.refl so (.int _)⟩
  · obtain ⟨p, vs, rfl, h1, t⟩ := sa.list
    exact ⟨_, _, rfl, .inl ⟨vs, .inl (.inl h1), rfl⟩, by rw [t.length]; exact q O H _ Le.refl so (.int _)⟩
  · obtain ⟨p, vs, rfl, h1, t⟩ := sa.frz
    exact ⟨_, _, rfl, .inl ⟨vs, h1, rfl⟩, by rw [t.length]; exact q O H _ Le.refl so (.int _)⟩
  · split at q
    · rename_i z hl
      have e := sa.str
      subst e
      exact ⟨_, z.length, rfl, ⟨small_len hl, rfl⟩, q O H _ Le.refl so (.int _)⟩
    · exact q.elim
  · exact q.elim
def gAbs (a : D) : M D := match a with
  | .int i => pure (.int (if i < 0 then -i else i))
  | _ => no
theorem d_abs : CallD X T (fun xs H Q => ∃ i, xs = [.int i] ∧ Q (.int (if i < 0 then -i else i)) H) (c1 gAbs) := cd1 fun O H S x a Q E so sa q => by
  unfold gAbs at q
  split at q
  · exact ⟨_, by rw [sa.int], q O H _ Le.refl so (.int _)⟩
  · exact q.elim
def gMax2 (a b : D) : M D := match a, b with
  | .int i, .int j => pure (.int (if j > i then j else i))
  | _, _ => no
def gMin2 (a b : D) : M D := match a, b with
  | .int i, .int j => pure (.int (if j < i then j else i))
  | _, _ => no
theorem d_max2 : CallD X T (fun xs H Q => ∃ i j, xs = [.int i, .int j] ∧ Q (.int (if j > i then j else i)) H) (c2 gMax2) := cd2 fun O H S x y a b Q E so sa sb q => by
  unfold gMax2 at q
  split at q
  · exact ⟨_, _, by rw [sa.int, sb.int], q O H _ Le.refl so (.int _)⟩
  · exact q.elim
theorem d_min2 : CallD X T (fun xs H Q => ∃ i j, xs = [.int i, .int j] ∧ Q (.int (if j < i then j else i)) H) (c2 gMin2) := cd2 fun O H S x y a b Q E so sa sb q => by
  unfold gMin2 at q
  split at q
  · exact ⟨_, _, by rw [sa.int, sb.int], q O H _ Le.refl so (.int _)⟩
  · exact q.elim
def gInt (a : D) : M D := match a with
  | .int i => pure (.int i)
  | .bool k => pure (.int (if k then 1 else 0))
  | _ => no
theorem d_int : CallD X T (fun xs H Q => (∃ i, xs = [.int i] ∧ Q (.int i) H) ∨ ∃ k, xs = [.bl k] ∧ Q (.int (if k then 1 else 0)) H) (c1 gInt) := cd1 fun O H S x a Q E so sa q => by
  unfold gInt at q
  split at q
  · exact .inl ⟨_, by rw [sa.int], q O H _ Le.refl so (.int _)⟩
  · exact .inr ⟨_, by rw [sa.bl], q O H _ Le.refl so (.int _)⟩
  · exact q.elim
def gList (a : D) : M D := match a with
  | .tuple xs => pure (.list xs)
  | .list xs => pure (.list xs)
  | _ => no
theorem d_list : CallD X T (fun xs H Q => ∃ p ys, xs = [.ref p] ∧ (SqL X.K H p ys ∨ SqT X.K H p ys) ∧ ∀ l, H l = none → Q (.ref l) (upd H l (.lst ys))) (c1 gList) := cd1 fun O H S x a Q E so sa q => by
  unfold gList at q
  split at q
  · obtain ⟨p, vs, rfl, h1, t, _⟩ := sa.tuple
    exact ⟨_, _, rfl, .inr h1, new_lst so t q⟩
  · obtain ⟨p, vs, rfl, h1, t⟩ := sa.list
    exact ⟨_, _, rfl, .inl (.inl (.inl h1)), new_lst so t q⟩
  · exact q.elim
def gTuple (a : D) : M D := match a with
  | .tuple xs => pure (.tuple xs)
  | .list xs => pure (.tuple xs)
  | _ => no
theorem d_tuple : CallD X T (fun xs H Q => ∃ p ys, xs = [.ref p] ∧ ((SqL X.K H p ys ∧ ∀ l, H l = none → Q (.ref l) (upd H l (.tup ys))) ∨ (SqT X.K H p ys ∧ Q (.ref p) H))) (c1 gTuple) := cd1 fun O H S x a Q E so sa q => by
  unfold gTuple at q
  split at q
  · obtain ⟨p, vs, rfl, h1, t, rt⟩ := sa.tuple
    exact ⟨_, _, rfl, .inr ⟨h1, q O H _ Le.refl so rt⟩⟩
  · obtain ⟨p, vs, rfl, h1, t⟩ := sa.list
    exact ⟨_, _, rfl, .inl ⟨.inl (.inl h1), new_tup so t q⟩⟩
  · exact q.elim
/-- all, any of truth values -/
def bools : List D → Option (List Bool)
  | [] => some []
  | .bool b :: xs => (bools xs).map (b :: ·)
  | _ => none
theorem bools_rp {K : PySem.W.Frag} {mg : Str → Option Value} {O : List Addr} {G : Hp} : ∀ {ds : List D} {vs : List V} {bs : List Bool}, Rps K mg O G vs ds → bools ds = some bs → vs = bs.map V.bl
  | _, _, _, .nil, e => by cases e; rfl
  | _, _, _, .cons (d := d) r t, e => by
    cases r with
    | bl b =>
      rw [bools] at e
      obtain ⟨bs', h, rfl⟩ := Option.map_eq_some_iff.mp e
      rw [bools_rp t h]
      rfl
    | _ => simp [bools] at e
def gAll (a : D) : M D := match a with
  | .list xs => ofO ((bools xs).map fun bs => .bool (bs.all id))
  | _ => no
def gAny (a : D) : M D := match a with
  | .list xs => ofO ((bools xs).map fun bs => .bool (bs.any id))
  | _ => no
theorem d_all : CallD X T (rAll X.K) (c1 gAll) := cd1 fun O H S x a Q E so sa q => by
  unfold gAll at q
  split at q
  · obtain ⟨d, h, q1⟩ := po_ofO q
    obtain ⟨bs, hb, rfl⟩ := Option.map_eq_some_iff.mp h
    obtain ⟨p, vs, rfl, h1, t⟩ := sa.list
    have e := bools_rp t hb
    subst e
    exact ⟨_, _, rfl, .inl (.inl h1), q1 O H _ Le.refl so (.bl _)⟩
  · exact q.elim
theorem d_any : CallD X T (rAny X.K) (c1 gAny) := cd1 fun O H S x a Q E so sa q => by
  unfold gAny at q
  split at q
  · obtain ⟨d, h, q1⟩ := po_ofO q
    obtain ⟨bs, hb, rfl⟩ := Option.map_eq_some_iff.mp h
    obtain ⟨p, vs, rfl, h1, t⟩ := sa.list
    have e := bools_rp t hb
    subst e
    exact ⟨_, _, rfl, .inl (.inl h1), q1 O H _ Le.refl so (.bl _)⟩
  · exact q.elim
/-- isinstance of a built-in type -/
def tyName : D → Option String
  | .none => some "NoneType"
  | .bool _ => some "bool"
  | .int _ => some "int"
  | .str _ => some "str"
  | .list _ => some "list"
  | .tuple _ => some "tuple"
  | .frz _ => some "list"
  | _ => none
def gIsi (ty : String) (a : D) : M D := ofO ((tyName a).bind fun t => (kitB t ty).map .bool)
theorem sqt_ty {K : PySem.W.Frag} {H : Hp} {a : Addr} {xs : List V} (h : SqT K H a xs) : TyX K H (.ref a) (.type "tuple") := by
  rcases h with (h | ⟨o, h⟩) | ⟨o, its, n, h, c, _⟩
  · exact .base (.tup h)
  · exact .fTuple h
  · exact .kTuple h c
theorem sql_ty {K : PySem.W.Frag} {H : Hp} {a : Addr} {xs : List V} (h : SqL K H a xs) : TyX K H (.ref a) (.type "list") := by
  rcases h with (h | ⟨o, h⟩) | ⟨o, its, n, h, c, _⟩
  · exact .base (.lst h)
  · exact .base (.frz h)
  · exact .kList h c
theorem Seen.ty {K : PySem.W.Frag} {mg : Str → Option Value} {O : Ow} {H : Hp} {x : V} {a : D} {t : String} (h : Seen K mg O H x a) (e : tyName a = some t) : TyX K H x (.type t) := by
  cases h with
  | of r nc =>
    cases r with
    | non => cases e; exact .base .non
    | bl b => cases e; exact .base (.bl b)
    | int b => cases e; exact .base (.int b)
    | str b => cases e; exact .base (.str b)
    | lst h _ => cases e; exact .base (.lst (hide_le h).2.1)
    | tup h _ => cases e; exact sqt_ty (st_le h)
    | frz h _ => cases e; exact sql_ty (sl_le h)
    | cell _ => exact absurd rfl (nc _)
    | fn _ => cases e
    | adr _ => cases e
  | cell h _ => cases e; exact .base (.lst h)
def eIsi (ty : String) (f : BE) : BE := fun env => f env >>= fun a => rd a >>= gIsi ty
theorem de_isi {ty : String} {x tn : Str} {e : Expr} {f : BE} {p p2 pos : Pos} (he : DE X T E e f) (hm : X.mg x = none) (hv : bootBuiltins x = some (.builtin "isinstance")) (hm2 : X.mg tn = none) (hv2 : bootBuiltins tn = some (.type ty)) (hg : Gl X x := by rfl) (hg2 : Gl X tn := by rfl)
    (hn : x ≠ "__name__" := by decide) (hdb : (x == ("__debug__" : Str)) = false := by decide) (hn2 : tn ≠ "__name__" := by decide) (hdb2 : (tn == ("__debug__" : Str)) = false := by decide)
    (h1 : starEach [e, .Name tn p2] X.env = (false, eval e X.env) :: starEach [.Name tn p2] X.env := by rfl) (hpl : (backTo pos (starEach [.Name tn p2] X.env)).any (·.1) = false := by rfl) (h2 : starEach [.Name tn p2] X.env = [(false, eval (.Name tn p2) X.env)] := by rfl) :
    DE X T E (.Call (.Name x p) [e, .Name tn p2] [] pos) (eIsi ty f) :=
  ⟨(pe_callB call_isi hg hm hv (pa_cons he.pe (pa_cons (pe_bltn (v := .ty ty) hg2 hm2 hv2 rfl hn2 hdb2) pa_nil (by rw [h2]; rfl)) h1) hn hdb h1 hpl).monoZ fun σ H Q ⟨env, S, O, re, so, q⟩ =>
    ⟨env, S, O, re, so, Po.bind q fun a S1 O1 H1 x l s1 r1 q1 => by
      obtain ⟨a', sa, q2⟩ := rd_po s1 r1 q1
      obtain ⟨d, h, q3⟩ := po_ofO q2
      obtain ⟨t, ht, h3⟩ := Option.bind_eq_some_iff.mp h
      obtain ⟨b, hb, rfl⟩ := Option.map_eq_some_iff.mp h3
      exact ⟨x, .ty ty, .type t, .type ty, b, rfl, .ty ty, sa.ty ht, kit_ty hb, q3 O1 H1 _ Le.refl s1 (.bl b)⟩⟩⟩
end
end Z
end
section
set_option maxHeartbeats 4000000
namespace Z
open PySem PySem.Spec PyProof.Rows L2

/-! ### where code runs -/
structure Cok (X : Cx) (E : XKs) (k : Nat) : Prop where
  calm : X.calm = true
  nd : X.N.Nodup
  pass : ∀ σ, PassesAt (L2N.CX X.prog X.w) X σ (E σ)
  own : PassesOwn (model X.prog X.w) X.A X.env X.xe
  room : Room k X.A
  tk : L2N.Takes X fun c d σ H => E σ c d H
abbrev E0s : XKs := fun _ _ _ _ => False
theorem passAt0 {X : Cx} {σ : L2.St} : PassesAt (L2N.CX X.prog X.w) X σ (fun _ _ _ => False) := fun _ _ _ _ _ _ h => by
  obtain ⟨_, _, _, _, _, _, _, _, _, _, _, _, z⟩ := h
  exact z.elim
theorem takes0N {X : Cx} : L2N.Takes X (fun _ _ _ _ => False) := fun _ _ x => by
  obtain ⟨_, _, _, _, _, _, _, _, _, _, _, _, _, _, _, _, z⟩ := x
  exact z.elim
theorem Cok.blk {X : Cx} {E : XKs} {k : Nat} (c : Cok X E k) (s : Shared) (H : Hp) (scope : Scope) (env : Env) (fp : List Addr) : Cok (X.blk s H scope env fp) E0s k :=
  ⟨c.calm, c.nd, fun _ => passAt0, PassesOwn.never, c.room, takes0N⟩
theorem Cok.mono {X : Cx} {E : XKs} {j k : Nat} (c : Cok X E k) (h : j ≤ k) : Cok X E j := ⟨c.calm, c.nd, c.pass, c.own, c.room.mono h, c.tk⟩
theorem Cok.hu {X : Cx} {E : XKs} {k : Nat} (c : Cok X E k) : X.A.units + 65 < cLine := by
  have := c.room.un
  omega
theorem Cok.hu64 {X : Cx} {E : XKs} {k : Nat} (c : Cok X E k) : X.A.units + 64 < cLine := by
  have := c.hu
  omega

/-! ### what is walked -/
mutual
def sameD : D → D → Bool
  | .none, .none => true
  | .bool a, .bool b => a == b
  | .int a, .int b => decide (a = b)
  | .str a, .str b => decide (a = b)
  | .list a, .list b => sameDs a b
  | .tuple a, .tuple b => sameDs a b
  | .frz a, .frz b => sameDs a b
  | .cell a, .cell b => decide (a = b)
  | .fn a, .fn b => decide (a = b)
  | .adr a, .adr b => decide (a = b)
  | _, _ => false
def sameDs : List D → List D → Bool
  | [], [] => true
  | a :: as, b :: bs => sameD a b && sameDs as bs
  | _, _ => false
end
mutual
theorem sameD_eq : ∀ a b : D, sameD a b = true → a = b
  | .none, b, h => by cases b <;> simp_all [sameD]
  | .bool _, b, h => by cases b <;> simp_all [sameD]
  | .int _, b, h => by cases b <;> simp_all [sameD]
  | .str _, b, h => by cases b <;> simp_all [sameD]
  | .cell _, b, h => by cases b <;> simp_all [sameD]
  | .fn _, b, h => by cases b <;> simp_all [sameD]
  | .adr _, b, h => by cases b <;> simp_all [sameD]
  | .list a, b, h => by
    cases b with
    | list b => rw [sameDs_eq a b (by simpa [sameD] using h)]
    | _ => simp [sameD] at h
  | .tuple a, b, h => by
    cases b with
    | tuple b => rw [sameDs_eq a b (by simpa [sameD] using h)]
    | _ => simp [sameD] at h
  | .frz a, b, h => by
    cases b with
    | frz b => rw [sameDs_eq a b (by simpa [sameD] using h)]
    | _ => simp [sameD] at h
theorem sameDs_eq : ∀ a b : List D, sameDs a b = true → a = b
  | [], [], _ => rfl
  | [], _ :: _, h => by simp [sameDs] at h
  | _ :: _, [], h => by simp [sameDs] at h
  | a :: as, b :: bs, h => by
    rw [sameDs, Bool.and_eq_true] at h
    rw [sameD_eq a b h.1, sameDs_eq as bs h.2]
end
mutual
theorem sameD_rfl : ∀ a : D, sameD a a = true
  | .none => by simp [sameD]
  | .bool _ => by simp [sameD]
  | .int _ => by simp [sameD]
  | .str _ => by simp [sameD]
  | .cell _ => by simp [sameD]
  | .fn _ => by simp [sameD]
  | .adr _ => by simp [sameD]
  | .list a => by simp [sameD, sameDs_rfl a]
  | .tuple a => by simp [sameD, sameDs_rfl a]
  | .frz a => by simp [sameD, sameDs_rfl a]
theorem sameDs_rfl : ∀ a : List D, sameDs a a = true
  | [] => rfl
  | a :: as => by rw [sameDs, sameD_rfl a, sameDs_rfl as]; rfl
end
/-- the items, and what must stay true of the cells meanwhile -/
structure Its where
  ds : List D
  gd : Store → Bool
def cellGd (n : Nat) (ds : List D) : Store → Bool := fun S => match S[n]? with
  | some (.lst es) => sameDs es ds
  | .none => false
/-- a list or a tuple, at an address -/
inductive SrcK where
  | l | t
def srcOf (d : D) (S : Store) : Option (SrcK × Its) := match d with
  | .list xs => some (.l, ⟨xs, fun _ => true⟩)
  | .frz xs => some (.l, ⟨xs, fun _ => true⟩)
  | .tuple xs => some (.t, ⟨xs, fun _ => true⟩)
  | .cell n => (match S[n]? with
    | some (.lst xs) => some (.l, ⟨xs, cellGd n xs⟩)
    | .none => none)
  | _ => none
section
variable (K : PySem.W.Frag) (mg : Str → Option Value) (T : Tb)
def AtK (H : Hp) (a : Addr) : SrcK → List V → Prop
  | .l, vs => SqL K H a vs
  | .t, vs => SqT K H a vs
def Src (k : SrcK) (a : Addr) (p : Its) (O : Ow) (H : Hp) : Prop := ∃ Kp : Ow → Hp → Prop, Kp O H ∧ (∀ O H O' H', Kp O H → Lw O H O' H' → Kp O' H') ∧
  ∀ O H S, Kp O H → SOk K mg T O H S → p.gd S = true → ∃ vs, AtK K H a k vs ∧ Rps K mg O.cs (hide O H) vs p.ds
def Dlv (J : It) (p : Its) (O : Ow) (H : Hp) : Prop := ∃ Kp : Ow → Hp → Prop, Kp O H ∧ (∀ O H O' H', Kp O H → Lw O H O' H' → Kp O' H') ∧
  ∀ i O H S, Kp O H → SOk K mg T O H S → p.gd S = true → (∀ d, p.ds[i]? = some d → J.go i H ∧ ∀ x H', J.yld i H x H' → Le O H O H' ∧ SOk K mg T O H' S ∧ Rp K mg O.cs (hide O H') x d) ∧ (p.ds.length ≤ i → J.stop i H)
end
section
variable {K : PySem.W.Frag} {mg : Str → Option Value} {T : Tb} {O : Ow} {H : Hp} {S : Store}
theorem src_ok {v : V} {d : D} {k : SrcK} {p : Its} (so : SOk K mg T O H S) (r : Rp K mg O.cs (hide O H) v d) (e : srcOf d S = some (k, p)) : ∃ a, v = .ref a ∧ Src K mg T k a p O H ∧ p.gd S = true := by
  cases r with
  | lst h t =>
    cases e
    exact ⟨_, rfl, ⟨fun O H => ∃ vs, hide O H _ = some (.lst vs) ∧ Rps K mg O.cs (hide O H) vs _, ⟨_, h, t⟩, fun O H O' H' ⟨vs, h, t⟩ l => ⟨vs, l.same _ _ h, t.mono l.pre l.same⟩, fun O H S ⟨vs, h, t⟩ _ _ => ⟨vs, .inl (.inl (hide_le h).2.1), t⟩⟩, rfl⟩
  | frz h t =>
    cases e
    exact ⟨_, rfl, ⟨fun O H => ∃ vs, SqL K (hide O H) _ vs ∧ Rps K mg O.cs (hide O H) vs _, ⟨_, h, t⟩, fun O H O' H' ⟨vs, h, t⟩ l => ⟨vs, l.same.seq h, t.mono l.pre l.same⟩, fun O H S ⟨vs, h, t⟩ _ _ => ⟨vs, sl_le h, t⟩⟩, rfl⟩
  | tup h t =>
    cases e
    exact ⟨_, rfl, ⟨fun O H => ∃ vs, SqT K (hide O H) _ vs ∧ Rps K mg O.cs (hide O H) vs _, ⟨_, h, t⟩, fun O H O' H' ⟨vs, h, t⟩ l => ⟨vs, Same.seqT l.same h, t.mono l.pre l.same⟩, fun O H S ⟨vs, h, t⟩ _ _ => ⟨vs, st_le h, t⟩⟩, rfl⟩
  | @cell a n hO =>
    unfold srcOf at e
    dsimp only at e
    split at e
    · rename_i xs hs
      cases e
      refine ⟨_, rfl, ⟨fun O H => O.cs[n]? = some a, hO, fun O H O' H' h l => ?_, fun O H S h so g => ?_⟩, ?_⟩
      · obtain ⟨r, e⟩ := l.pre
        rw [e]
        exact pre_get h
      · unfold cellGd at g
        dsimp only at g
        split at g
        · rename_i es hes
          have e := sameDs_eq _ _ g
          subst e
          obtain ⟨vs, h1, h2⟩ := sok_cell so h hes
          exact ⟨vs, .inl (.inl h1), h2⟩
        · cases g
      · unfold cellGd
        dsimp only
        rw [hs]
        exact sameDs_rfl xs
    · cases e
  | non => cases e
  | bl b => cases e
  | int b => cases e
  | str b => cases e
  | fn h => cases e
  | adr h => cases e
theorem dlv_l {a : Addr} {p : Its} (s : Src K mg T .l a p O H) : Dlv K mg T (Itl K a) p O H := by
  obtain ⟨Kp, h1, h2, h3⟩ := s
  refine ⟨Kp, h1, h2, fun i O H S hk so g => ?_⟩
  obtain ⟨vs, hv, t⟩ := h3 O H S hk so g
  have hv : SqL K H a vs := hv
  refine ⟨fun d hd => ?_, fun hl => ⟨vs, hv, by rw [t.length]; exact hl⟩⟩
  obtain ⟨v, hv2, r⟩ := t.get hd
  refine ⟨⟨vs, v, hv, hv2⟩, fun x H' hy => ?_⟩
  obtain ⟨rfl, hx⟩ := hy
  have e : x = v := Option.some.inj ((hx vs hv).symm.trans hv2)
  subst e
  exact ⟨Le.refl, so, r⟩
theorem dlv_t {a : Addr} {p : Its} (s : Src K mg T .t a p O H) : Dlv K mg T (Itt K a) p O H := by
  obtain ⟨Kp, h1, h2, h3⟩ := s
  refine ⟨Kp, h1, h2, fun i O H S hk so g => ?_⟩
  obtain ⟨vs, hv, t⟩ := h3 O H S hk so g
  have hv : SqT K H a vs := hv
  refine ⟨fun d hd => ?_, fun hl => ⟨vs, hv, by rw [t.length]; exact hl⟩⟩
  obtain ⟨v, hv2, r⟩ := t.get hd
  refine ⟨⟨vs, v, hv, hv2⟩, fun x H' hy => ?_⟩
  obtain ⟨rfl, hx⟩ := hy
  have e : x = v := Option.some.inj ((hx vs hv).symm.trans hv2)
  subst e
  exact ⟨Le.refl, so, r⟩
theorem Src.here {k : SrcK} {a : Addr} {p : Its} (s : Src K mg T k a p O H) (so : SOk K mg T O H S) (g : p.gd S = true) : ∃ vs, AtK K H a k vs := by
  obtain ⟨Kp, h1, _, h3⟩ := s
  obtain ⟨vs, h, _⟩ := h3 O H S h1 so g
  exact ⟨vs, h⟩
def rangeDs (lo : Int) (n : Nat) : List D := (List.range n).map fun i => .int (lo + (i : Nat))
theorem dlv_r {lo : Int} {n : Nat} : Dlv K mg T (Itr lo n) ⟨rangeDs lo n, fun _ => true⟩ O H := by
  refine ⟨fun _ _ => True, trivial, fun _ _ _ _ h _ => h, fun i O H S _ so _ => ⟨fun d hd => ?_, fun hl => ?_⟩⟩
  · unfold rangeDs at hd
    rw [List.getElem?_map] at hd
    obtain ⟨j, hj, e⟩ := Option.map_eq_some_iff.mp hd
    obtain ⟨hi, e2⟩ := List.getElem?_eq_some_iff.mp hj
    simp at hi e2
    subst e e2
    refine ⟨hi, fun x H' hy => ?_⟩
    obtain ⟨rfl, rfl⟩ := hy
    exact ⟨Le.refl, so, .int _⟩
  · show n ≤ i
    simpa [rangeDs] using hl
/-- pairs -/
def pairDs : List D → List D → List D
  | x :: xs, y :: ys => .tuple [x, y] :: pairDs xs ys
  | _, _ => []
theorem pairDs_get : ∀ {xs ys : List D} {i : Nat} {d : D}, (pairDs xs ys)[i]? = some d → ∃ x y, xs[i]? = some x ∧ ys[i]? = some y ∧ d = .tuple [x, y]
  | [], _, _, _, h => by simp [pairDs] at h
  | _ :: _, [], _, _, h => by simp [pairDs] at h
  | x :: xs, y :: ys, 0, d, h => by
    simp [pairDs] at h
    exact ⟨x, y, rfl, rfl, h.symm⟩
  | x :: xs, y :: ys, i + 1, d, h => by
    obtain ⟨a, b, h1, h2, h3⟩ := pairDs_get (xs := xs) (ys := ys) (i := i) (by simpa [pairDs] using h)
    exact ⟨a, b, by simpa using h1, by simpa using h2, h3⟩
theorem pairDs_len : ∀ {xs ys : List D}, (pairDs xs ys).length = min xs.length ys.length
  | [], _ => by simp [pairDs]
  | _ :: _, [] => by simp [pairDs]
  | x :: xs, y :: ys => by
    simp [pairDs, pairDs_len (xs := xs) (ys := ys)]
theorem new_pair {x y : V} {a b : D} {t : Addr} (so : SOk K mg T O H S) (n : H t = none) (ra : Rp K mg O.cs (hide O H) x a) (rb : Rp K mg O.cs (hide O H) y b) :
    Le O H O (upd H t (.tup [x, y])) ∧ SOk K mg T O (upd H t (.tup [x, y])) S ∧ Rp K mg O.cs (hide O (upd H t (.tup [x, y]))) (.ref t) (.tuple [a, b]) :=
  ⟨Le.new n, so.new n, .tup (.inl (.inl (hide_of (so.ne n) upd_same))) (.cons (ra.le (Le.new n)) (.cons (rb.le (Le.new n)) .nil))⟩
theorem dlv_zl {a b : Addr} {p q : Its} (s : Src K mg T .l a p O H) (s' : Src K mg T .l b q O H) : Dlv K mg T (Itz K a b) ⟨pairDs p.ds q.ds, fun S => p.gd S && q.gd S⟩ O H := by
  obtain ⟨Kp, h1, h2, h3⟩ := s
  obtain ⟨Kq, k1, k2, k3⟩ := s'
  refine ⟨fun O H => Kp O H ∧ Kq O H, ⟨h1, k1⟩, fun O H O' H' ⟨x, y⟩ l => ⟨h2 _ _ _ _ x l, k2 _ _ _ _ y l⟩, fun i O H S ⟨hk, hk'⟩ so g => ?_⟩
  rw [Bool.and_eq_true] at g
  obtain ⟨vs, hv, t⟩ := h3 O H S hk so g.1
  obtain ⟨us, hu, t'⟩ := k3 O H S hk' so g.2
  have hv : SqL K H a vs := hv
  have hu : SqL K H b us := hu
  refine ⟨fun d hd => ?_, fun hl => ⟨vs, us, hv, hu, ?_⟩⟩
  · obtain ⟨x, y, e1, e2, rfl⟩ := pairDs_get hd
    obtain ⟨v, hv2, r⟩ := t.get e1
    obtain ⟨u, hu2, r'⟩ := t'.get e2
    refine ⟨⟨vs, us, v, u, hv, hu, hv2, hu2⟩, fun z H' hy => ?_⟩
    obtain ⟨tt, x1, y1, rfl, hn, rfl, f1, f2⟩ := hy
    have e1 : x1 = v := Option.some.inj ((f1 vs hv).symm.trans hv2)
    have e2 : y1 = u := Option.some.inj ((f2 us hu).symm.trans hu2)
    subst e1 e2
    exact new_pair so hn r r'
  · rw [t.length, t'.length]
    have : (pairDs p.ds q.ds).length ≤ i := hl
    rw [pairDs_len] at this
    omega
theorem dlv_zt {a b : Addr} {p q : Its} (s : Src K mg T .t a p O H) (s' : Src K mg T .t b q O H) : Dlv K mg T (RZ.ItzT K a b) ⟨pairDs p.ds q.ds, fun S => p.gd S && q.gd S⟩ O H := by
  obtain ⟨Kp, h1, h2, h3⟩ := s
  obtain ⟨Kq, k1, k2, k3⟩ := s'
  refine ⟨fun O H => Kp O H ∧ Kq O H, ⟨h1, k1⟩, fun O H O' H' ⟨x, y⟩ l => ⟨h2 _ _ _ _ x l, k2 _ _ _ _ y l⟩, fun i O H S ⟨hk, hk'⟩ so g => ?_⟩
  rw [Bool.and_eq_true] at g
  obtain ⟨vs, hv, t⟩ := h3 O H S hk so g.1
  obtain ⟨us, hu, t'⟩ := k3 O H S hk' so g.2
  have hv : SqT K H a vs := hv
  have hu : SqT K H b us := hu
  refine ⟨fun d hd => ?_, fun hl => ⟨vs, us, hv, hu, ?_⟩⟩
  · obtain ⟨x, y, e1, e2, rfl⟩ := pairDs_get hd
    obtain ⟨v, hv2, r⟩ := t.get e1
    obtain ⟨u, hu2, r'⟩ := t'.get e2
    refine ⟨⟨vs, us, v, u, hv, hu, hv2, hu2⟩, fun z H' hy => ?_⟩
    obtain ⟨tt, x1, y1, rfl, hn, rfl, f1, f2⟩ := hy
    have e1 : x1 = v := Option.some.inj ((f1 vs hv).symm.trans hv2)
    have e2 : y1 = u := Option.some.inj ((f2 us hu).symm.trans hu2)
    subst e1 e2
    exact new_pair so hn r r'
  · rw [t.length, t'.length]
    have : (pairDs p.ds q.ds).length ≤ i := hl
    rw [pairDs_len] at this
    omega
end

/-! ### iterables -/
abbrev BI := Ev → M Its
def PoI (K : PySem.W.Frag) (mg : Str → Option Value) (T : Tb) (r : Res Its) (O : Ow) (H : Hp) (R : It → Hp → Prop) (E : XK) : Prop := match r with
  | .ok p S' => ∀ O' H' J, Le O H O' H' → SOk K mg T O' H' S' → Dlv K mg T J p O' H' → R J H'
  | .err c S' => ∀ O' H' C, Le O H O' H' → SOk K mg T O' H' S' → mg c = some (.ref C) → E (.ref C) none H'
  | .no => False
def tDI (K : PySem.W.Frag) (mg : Str → Option Value) (T : Tb) (E : XKs) (f : BI) : TI := fun σ H R => ∃ env S O, REnv K mg O.cs (hide O H) σ env ∧ SOk K mg T O H S ∧ PoI K mg T (f env S) O H R (E σ)
structure DI (X : Cx) (T : Tb) (E : XKs) (tg e : Expr) (f : BI) : Prop where
  pi : PI X tg e (tDI X.K X.mg T E f)
theorem _root_.L2.PI.monoZ {X : Cx} {tg e : Expr} {t t' : TI} (h : PI X tg e t) (k : ∀ σ H Q, t' σ H Q → t σ H Q) : PI X tg e t' := ⟨fun pins s σ H Q I q => h.run pins s σ H Q I (k _ _ _ q)⟩
theorem PoI.bind {K : PySem.W.Frag} {mg : Str → Option Value} {T : Tb} {α β : Type} {R : List Addr → Hp → β → α → Prop} {m : M α} {f : α → M Its} {S : Store} {O : Ow} {H : Hp} {Q : β → Hp → Prop} {Q' : It → Hp → Prop} {E : XK} (h : PoI K mg T ((m >>= f) S) O H Q' E)
    (k : ∀ a S1 O1 H1 b, Le O H O1 H1 → SOk K mg T O1 H1 S1 → R O1.cs (hide O1 H1) b a → PoI K mg T (f a S1) O1 H1 Q' E → Q b H1) : Po K mg T R (m S) O H Q E := by
  rw [bd_ap] at h
  cases e : m S with
  | ok a S1 =>
    rw [e] at h
    refine fun O1 H1 b l s r => k a S1 O1 H1 b l s r ?_
    have h : PoI K mg T (f a S1) O H Q' E := h
    cases e2 : f a S1 with
    | ok p S2 => rw [e2] at h; exact fun O2 H2 J l2 s2 d => h O2 H2 J (l.trans l2) s2 d
    | err c S2 => rw [e2] at h; exact fun O2 H2 C l2 s2 d => h O2 H2 C (l.trans l2) s2 d
    | no => rw [e2] at h; exact h
  | err c S1 => rw [e] at h; exact h
  | no => rw [e] at h; exact h
def toIts (d : D) : M Its := fun S => match srcOf d S with
  | some (_, p) => .ok p S
  | none => .no
def iSeq (f : BE) : BI := fun env => f env >>= toIts
def toZip (a b : D) : M Its := fun S => match srcOf a S, srcOf b S with
  | some (.l, p), some (.l, q) => .ok ⟨pairDs p.ds q.ds, fun S => p.gd S && q.gd S⟩ S
  | some (.t, p), some (.t, q) => .ok ⟨pairDs p.ds q.ds, fun S => p.gd S && q.gd S⟩ S
  | _, _ => .no
def iZp (f g : BE) : BI := fun env => f env >>= fun a => g env >>= fun b => toZip a b
theorem big62 : (1000000000 : Int) < 2 ^ 62 := by decide +kernel
theorem lo62 {j : Int} (h : -1000000000 ≤ j) : -(2 ^ 62) ≤ j := by
  have := big62
  generalize (2 : Int) ^ 62 = B at this ⊢
  omega
theorem hi62 {j : Int} (h : j ≤ 1000000000) : j < 2 ^ 62 := by
  have := big62
  generalize (2 : Int) ^ 62 = B at this ⊢
  omega
def toRng : D → M Its
  | .int j => if -1000000000 ≤ j ∧ j ≤ 1000000000 then pure ⟨rangeDs 0 j.toNat, fun _ => true⟩ else no
  | _ => no
def iRg (f : BE) : BI := fun env => f env >>= toRng
def toRng2 : D → D → M Its
  | .int i, .int j => if -1000000000 ≤ i ∧ i ≤ 1000000000 ∧ -1000000000 ≤ j ∧ j ≤ 1000000000 then pure ⟨rangeDs i (j - i).toNat, fun _ => true⟩ else no
  | _, _ => no
def iRg2 (f g : BE) : BI := fun env => f env >>= fun a => g env >>= fun b => toRng2 a b
section
variable {X : Cx} {T : Tb} {E : XKs} {tg : Expr}
/-- a value that is a list or a tuple -/
def iAny (K : PySem.W.Frag) (tl : TE) : TI := fun σ H R => tl σ H fun x H1 => ∃ a, x = .ref a ∧ (((∃ xs, SqL K H1 a xs) ∧ R (Itl K a) H1) ∨ ((∃ xs, SqT K H1 a xs) ∧ R (Itt K a) H1))
theorem pi_any {l : Expr} {tl : TE} (hl : PE X l tl) : PI X tg l (iAny X.K tl) :=
  ⟨fun pins s σ H R I h => thn (hl.run pins s σ H _ I h) fun v s1 ⟨x, H1, I1, r1, a, ex, q⟩ => by
    subst ex
    cases r1
    have fresh : ∀ {o : Obj}, ∀ b ∈ [s1.heap.objs.size], FpOk X pins H1 b := fun b hb => by
      have e : b = s1.heap.objs.size := List.mem_singleton.mp hb
      rw [e]
      exact I1.fpOk (Nat.le_refl _) (I1.hok.fresh (Nat.le_refl _))
    rcases q with ⟨⟨xs, hq⟩, q⟩ | ⟨⟨xs, hq⟩, q⟩
    · obtain ⟨its, rv, p, hz⟩ := I1.list hq
      exact wpAny_pyIter_list p.isList ⟨_, [s1.heap.objs.size], _, _, H1, rfl, I1.kept (t' := s1.toks) fun b o e => Heap.get?_push_of_some _ e, turn_list a _, ⟨_, Heap.get?_push_size _ rfl, rfl, rfl⟩, fresh (o := default), q⟩
    · obtain ⟨its, rv, p, hz⟩ := I1.tuple hq
      exact wpAny_pyIter_tuple p ⟨_, [s1.heap.objs.size], _, _, H1, rfl, I1.kept (t' := s1.toks) fun b o e => Heap.get?_push_of_some _ e, turn_tuple a _, ⟨_, Heap.get?_push_size _ rfl, rfl, rfl⟩, fresh (o := default), q⟩⟩
theorem di_seq {e : Expr} {f : BE} (h : DE X T E e f) : DI X T E tg e (iSeq f) :=
  ⟨(pi_any h.pe).monoZ fun σ H Q ⟨env, S, O, re, so, q⟩ => ⟨env, S, O, re, so, PoI.bind q fun d S1 O1 H1 x l s1 r1 q1 => by
    unfold toIts at q1
    split at q1
    · rename_i k p e
      obtain ⟨a, rfl, sr, g⟩ := src_ok s1 r1 e
      refine ⟨a, rfl, ?_⟩
      cases k with
      | l => exact .inl ⟨sr.here s1 g, q1 O1 H1 _ Le.refl s1 (dlv_l sr)⟩
      | t => exact .inr ⟨sr.here s1 g, q1 O1 H1 _ Le.refl s1 (dlv_t sr)⟩
    · exact q1.elim⟩⟩
theorem di_zip {e e2 : Expr} {f g : BE} {p pos tpos : Pos} {elts : List Expr} {kk : Nat} (ha : DE X T E e f) (hb : DE X T E e2 g) (hm : X.mg "zip" = none) (hg : Gl X "zip" := by rfl)
    (hs : starEach [e, e2] X.env = (false, eval e X.env) :: starEach [e2] X.env := by rfl) (hpl : (backTo pos (starEach [e2] X.env)).any (·.1) = false := by rfl) (h2 : starEach [e2] X.env = [(false, eval e2 X.env)] := by rfl) :
    DI X T E (.Tuple elts kk tpos) (.Call (.Name "zip" p) [e, e2] [] pos) (iZp f g) :=
  ⟨(RZ.pi_zipA hg hm (pa_cons ha.pe (pa_cons hb.pe pa_nil (by rw [h2]; rfl)) hs) hs hpl).monoZ fun σ H Q ⟨env, S, O, re, so, q⟩ => ⟨env, S, O, re, so, PoI.bind q fun a S1 O1 H1 x l s1 r1 q1 =>
    ⟨env, S1, O1, re.mono l, s1, PoI.bind q1 fun b S2 O2 H2 y l2 s2 r2 q2 => by
      unfold toZip at q2
      split at q2
      · rename_i p q ea eb
        obtain ⟨a1, rfl, sr, ga⟩ := src_ok s2 (r1.le l2) ea
        obtain ⟨b1, rfl, sr', gb⟩ := src_ok s2 r2 eb
        obtain ⟨vs, hv⟩ := sr.here s2 ga
        obtain ⟨us, hu⟩ := sr'.here s2 gb
        exact ⟨a1, b1, vs, us, rfl, .inl ⟨hv, hu, q2 O2 H2 _ Le.refl s2 (dlv_zl sr sr')⟩⟩
      · rename_i p q ea eb
        obtain ⟨a1, rfl, sr, ga⟩ := src_ok s2 (r1.le l2) ea
        obtain ⟨b1, rfl, sr', gb⟩ := src_ok s2 r2 eb
        obtain ⟨vs, hv⟩ := sr.here s2 ga
        obtain ⟨us, hu⟩ := sr'.here s2 gb
        exact ⟨a1, b1, vs, us, rfl, .inr ⟨hv, hu, q2 O2 H2 _ Le.refl s2 (dlv_zt sr sr')⟩⟩
      · exact q2.elim⟩⟩⟩
theorem di_range {a : Expr} {f : BE} {p pos : Pos} (ha : DE X T E a f) (hm : X.mg "range" = none) (hg : Gl X "range" := by rfl) (hs : starEach [a] X.env = [(false, eval a X.env)] := by rfl) : DI X T E tg (.Call (.Name "range" p) [a] [] pos) (iRg f) :=
  ⟨(pi_range1 hg hm (pa_cons ha.pe pa_nil (by rw [hs]; rfl)) hs).monoZ fun σ H Q ⟨env, S, O, re, so, q⟩ => ⟨env, S, O, re, so, PoI.bind q fun d S1 O1 H1 x l s1 r1 q1 => by
    unfold toRng at q1
    split at q1
    · split at q1
      · rename_i hb
        cases r1
        exact ⟨_, rfl, lo62 hb.1, hi62 hb.2, q1 O1 H1 _ Le.refl s1 dlv_r⟩
      · exact q1.elim
    · exact q1.elim⟩⟩
theorem di_range2 {a b : Expr} {f g : BE} {p pos : Pos} (ha : DE X T E a f) (hb : DE X T E b g) (hm : X.mg "range" = none) (hg : Gl X "range" := by rfl) (hs : starEach [a, b] X.env = [(false, eval a X.env), (false, eval b X.env)] := by rfl) (hs2 : starEach [b] X.env = [(false, eval b X.env)] := by rfl) :
    DI X T E tg (.Call (.Name "range" p) [a, b] [] pos) (iRg2 f g) :=
  ⟨(pi_range2 hg hm (pa_cons ha.pe (pa_cons hb.pe pa_nil (by rw [hs2]; rfl)) (by rw [hs, hs2])) hs hs2).monoZ fun σ H Q ⟨env, S, O, re, so, q⟩ => ⟨env, S, O, re, so, PoI.bind q fun d S1 O1 H1 x l s1 r1 q1 =>
    ⟨env, S1, O1, re.mono l, s1, PoI.bind q1 fun d2 S2 O2 H2 y l2 s2 r2 q2 => by
      unfold toRng2 at q2
      split at q2
      · split at q2
        · rename_i hb
          cases r1
          cases r2
          exact ⟨_, _, rfl, ⟨lo62 hb.1, hi62 hb.2.1, lo62 hb.2.2.1, hi62 hb.2.2.2⟩, q2 O2 H2 _ Le.refl s2 dlv_r⟩
        · exact q2.elim
      · exact q2.elim⟩⟩⟩
end

/-! ### for, while -/
def forM (gd : Store → Bool) (t : Tg) (b : BS) : List D → Ev → Store → SR
  | [], env, S => if gd S = true then .next env S else .no
  | d :: ds, env, S => if gd S = true then (match asg S t d env with
    | none => .no
    | some env1 => match b env1 S with
      | .next e S' => forM gd t b ds e S'
      | .cont e S' => forM gd t b ds e S'
      | .brk e S' => .next e S'
      | .ret d S' => .ret d S'
      | .err c e S' => .err c e S'
      | .no => .no) else .no
def sFor (i : BI) (t : Tg) (b : BS) : BS := fun env S => thenS (i env S) env fun p S' => forM p.gd t b p.ds env S'
def whileM (c : BT) (b : BS) : Nat → Ev → Store → SR
  | 0, _, _ => .no
  | n + 1, env, S => thenS (c env S) env fun k S1 => if k = true then (match b env S1 with
      | .next e S' => whileM c b n e S'
      | .cont e S' => whileM c b n e S'
      | .brk e S' => .next e S'
      | .ret d S' => .ret d S'
      | .err x e S' => .err x e S'
      | .no => .no) else .next env S1
section
variable {X : Cx} {T : Tb} {E : XKs} {k : Nat}
theorem PoS.imp {K : PySem.W.Frag} {mg : Str → Option Value} {r : SR} {O : Ow} {H : Hp} {Dn Dn' : Ends} (h : PoS K mg T r O H Dn E) (h1 : ∀ σ H, Dn.nx σ H → Dn'.nx σ H) (h2 : ∀ v H, Dn.rt v H → Dn'.rt v H) (h3 : ∀ σ H, Dn.bk σ H → Dn'.bk σ H) (h4 : ∀ σ H, Dn.ct σ H → Dn'.ct σ H) : PoS K mg T r O H Dn' E := by
  cases r with
  | next a S' => exact fun O2 H2 b l2 s q => h1 _ _ (h O2 H2 b l2 s q)
  | ret a S' => exact fun O2 H2 b l2 s q => h2 _ _ (h O2 H2 b l2 s q)
  | brk a S' => exact fun O2 H2 b l2 s q => h3 _ _ (h O2 H2 b l2 s q)
  | cont a S' => exact fun O2 H2 b l2 s q => h4 _ _ (h O2 H2 b l2 s q)
  | err c e S' => exact h
  | no => exact h
theorem ds_for {tg iter : Expr} {body : List Stmt} {i : BI} {t : Tg} {b : BS} {pos : Pos} (c : Cok X E k) (hi : DI X T E tg iter i) (hg : DG X tg t) (hb : DSs X T E body b) (hs : ∀ x, foldedSetIterable iter X.env x = pure x := by intro _; rfl) : DS X T E (.For tg iter body [] pos) (sFor i t b) := by
  refine ⟨(ps_for c.own c.calm hi.pi hg.pg hb.pss hs).monoZ fun Dn σ H ⟨env, S, O, re, so, q⟩ => ⟨env, S, O, re, so, ?_⟩⟩
  unfold sFor at q
  cases e : i env S with
  | no => rw [e] at q; exact q
  | err x S1 => rw [e] at q; exact fun O1 H1 C l s z => q O1 H1 σ C l s (re.mono l) z
  | ok p S1 =>
    rw [e] at q
    intro O1 H1 J l so1 dl
    obtain ⟨Kp, d1, d2, d3⟩ := dl
    refine ⟨fun i m σ H => m = p.ds.length - i ∧ i ≤ p.ds.length ∧ ∃ env S O, REnv X.K X.mg O.cs (hide O H) σ env ∧ SOk X.K X.mg T O H S ∧ Kp O H ∧ PoS X.K X.mg T (forM p.gd t b (p.ds.drop i) env S) O H Dn E,
      ⟨p.ds.length, by simp, Nat.zero_le _, env, S1, O1, re.mono l, so1, d1, PoS.le q l⟩, ?_⟩
    rintro i m σ2 H2 ⟨rfl, hi, env2, S2, O2, re2, so2, hk, q2⟩
    by_cases hlt : i < p.ds.length
    · rw [List.drop_eq_getElem_cons hlt, forM] at q2
      split at q2
      · rename_i hg
        obtain ⟨hgo, _⟩ := d3 i O2 H2 S2 hk so2 hg
        obtain ⟨go, hy⟩ := hgo _ (List.getElem?_eq_getElem hlt)
        refine .inr ⟨go, fun σ' H' => ∃ env S O, REnv X.K X.mg O.cs (hide O H') σ' env ∧ SOk X.K X.mg T O H' S ∧ Kp O H' ∧ PoS X.K X.mg T (forM p.gd t b (p.ds.drop (i + 1)) env S) O H' Dn E,
          fun σ' H' n => ⟨p.ds.length - (i + 1), by omega, rfl, by omega, n⟩, fun x H3 yx => ?_⟩
        obtain ⟨l3, so3, r3⟩ := hy x H3 yx
        cases ea : asg S2 t p.ds[i] env2 with
        | none => rw [ea] at q2; exact q2.elim
        | some env3 =>
          rw [ea] at q2
          dsimp only at q2
          refine gT_ok t (re2.mono l3) r3 ea fun σ4 re4 _ => ⟨env3, S2, O2, re4, so3, ?_⟩
          cases eb : b env3 S2 with
          | next e4 S4 => rw [eb] at q2; exact fun O5 H5 σ5 l5 s5 r5 => ⟨e4, S4, O5, r5, s5, d2 _ _ _ _ hk (l3.trans l5).w, PoS.le q2 (l3.trans l5)⟩
          | cont e4 S4 => rw [eb] at q2; exact fun O5 H5 σ5 l5 s5 r5 => ⟨e4, S4, O5, r5, s5, d2 _ _ _ _ hk (l3.trans l5).w, PoS.le q2 (l3.trans l5)⟩
          | brk e4 S4 => rw [eb] at q2; exact fun O5 H5 σ5 l5 s5 r5 => q2 O5 H5 σ5 (l3.trans l5) s5 r5
          | ret d4 S4 => rw [eb] at q2; exact fun O5 H5 v l5 s5 r5 => q2 O5 H5 v (l3.trans l5) s5 r5
          | err x4 e4 S4 => rw [eb] at q2; exact fun O5 H5 σ5 C l5 s5 r5 z => q2 O5 H5 σ5 C (l3.trans l5) s5 r5 z
          | no => rw [eb] at q2; exact q2
      · exact q2.elim
    · have ei : i = p.ds.length := by omega
      subst ei
      rw [List.drop_length, forM] at q2
      split at q2
      · rename_i hg
        obtain ⟨_, hst⟩ := d3 _ O2 H2 S2 hk so2 hg
        exact .inl ⟨hst (Nat.le_refl _), q2 O2 H2 σ2 Le.refl so2 re2⟩
      · exact q2.elim
theorem ds_while {c : Expr} {body : List Stmt} {t : BT} {b : BS} {n : Nat} {pos : Pos} (ck : Cok X E k) (hc : DT X T E c t) (hb : DSs X T E body b) : DS X T E (.While c body [] pos) (whileM t b n) := by
  refine ⟨(ps_while ck.own hc.pt hb.pss).monoZ fun Dn σ H ⟨env, S, O, re, so, q⟩ => ?_⟩
  refine ⟨fun m σ H => ∃ env S O, REnv X.K X.mg O.cs (hide O H) σ env ∧ SOk X.K X.mg T O H S ∧ PoS X.K X.mg T (whileM t b m env S) O H Dn E, ⟨n, env, S, O, re, so, q⟩, ?_⟩
  rintro m σ2 H2 ⟨env2, S2, O2, re2, so2, q2⟩
  cases m with
  | zero => exact q2.elim
  | succ m =>
    rw [whileM] at q2
    refine ⟨env2, S2, O2, re2, so2, PoS.bind re2 q2 fun kk S3 O3 H3 bb l3 so3 r3 q3 => ?_⟩
    cases r3
    cases kk with
    | false => exact q3 O3 H3 σ2 Le.refl so3 (re2.mono l3)
    | true =>
      refine ⟨fun σ' H' => ∃ env S O, REnv X.K X.mg O.cs (hide O H') σ' env ∧ SOk X.K X.mg T O H' S ∧ PoS X.K X.mg T (whileM t b m env S) O H' Dn E, fun σ' H' h => ⟨m, Nat.lt_succ_self _, h⟩, env2, S3, O3, re2.mono l3, so3, ?_⟩
      simp only [if_true] at q3
      cases eb : b env2 S3 with
      | next e4 S4 => rw [eb] at q3; exact fun O5 H5 σ5 l5 s5 r5 => ⟨e4, S4, O5, r5, s5, PoS.le q3 l5⟩
      | cont e4 S4 => rw [eb] at q3; exact fun O5 H5 σ5 l5 s5 r5 => ⟨e4, S4, O5, r5, s5, PoS.le q3 l5⟩
      | brk e4 S4 => rw [eb] at q3; exact q3
      | ret d4 S4 => rw [eb] at q3; exact q3
      | err x4 e4 S4 => rw [eb] at q3; exact q3
      | no => rw [eb] at q3; exact q3
end
end Z
end
section
set_option maxHeartbeats 4000000
namespace Z
open PySem PySem.Spec PyProof.Rows L2

/-! ### comprehensions -/
def wipeE (env : Ev) : List Nat → Ev
  | [] => env
  | v :: vs => (wipeE env vs).set v none
theorem wipe_len (env : Ev) : ∀ vs, (wipeE env vs).length = env.length
  | [] => rfl
  | v :: vs => by simp [wipeE, wipe_len env vs]
theorem wipe_get {env : Ev} {σ : L2.St} (hl : σ.length = env.length) {i : Nat} {d : D} : ∀ {vs : List Nat}, (wipeE env vs)[i]? = some (some d) → env[i]? = some (some d) ∧ (wipe σ vs)[i]? = σ[i]?
  | [], h => ⟨h, rfl⟩
  | v :: vs, h => by
    unfold wipeE at h
    unfold wipe
    by_cases hi : v = i
    · subst hi
      by_cases hv : v < (wipeE env vs).length
      · rw [List.getElem?_set_self hv] at h; cases h
      · rw [List.getElem?_eq_none (by simpa using hv)] at h; cases h
    · rw [List.getElem?_set_ne hi] at h ⊢
      exact wipe_get hl h
theorem REnv.wipe {K : PySem.W.Frag} {mg : Str → Option Value} {O : List Addr} {G : Hp} {σ : L2.St} {env : Ev} (h : REnv K mg O G σ env) (vs : List Nat) : REnv K mg O G (L2.wipe σ vs) (wipeE env vs) :=
  ⟨by rw [wipe_length, wipe_len, h.1], fun i d e => by
    obtain ⟨h1, h2⟩ := wipe_get h.1 e
    obtain ⟨v, h3, h4⟩ := h.2 i d h1
    exact ⟨v, by rw [h2]; exact h3, h4⟩⟩
def compM (gd : Store → Bool) (t : Tg) (tt : BT) (f : BE) (env : Ev) : List D → List D → Store → Res (List D)
  | [], acc, S => if gd S = true then .ok acc S else .no
  | d :: ds, acc, S => if gd S = true then (match asg S t d env with
    | none => .no
    | some env1 => match tt env1 S with
      | .ok true S1 => (match f env1 S1 with
        | .ok y S2 => if acc.length < 1000000 then compM gd t tt f env ds (acc ++ [y]) S2 else .no
        | _ => .no)
      | .ok false S1 => compM gd t tt f env ds acc S1
      | _ => .no) else .no
def runLc (t : Tg) (tt : BT) (f : BE) (env : Ev) (p : Its) : M (List D) := compM p.gd t tt f env p.ds []
def eLc (vs : List Nat) (i : BI) (t : Tg) (tt : BT) (f : BE) : BE := fun env => i env >>= fun p => runLc t tt f (wipeE env vs) p >>= fun ds => pure (.list ds)
def eLcC (vs : List Nat) (i : BI) (t : Tg) (tt : BT) (f : BE) : BE := fun env => i env >>= fun p => runLc t tt f (wipeE env vs) p >>= fun ds => newCell ds
def bYes : BT := fun _ => pure true
structure DTs (X : Cx) (T : Tb) (E : XKs) (es : List Expr) (f : BT) : Prop where
  pt : PTs X es (tDT X.K X.mg T E f)
theorem dts_nil {X : Cx} {T : Tb} {E : XKs} : DTs X T E [] bYes := ⟨⟨fun pins s σ H Q I h => by
  obtain ⟨env, S, O, re, so, q⟩ := h
  exact pts_nil.run pins s σ H Q I (q O H true Le.refl so rfl)⟩⟩
theorem dts_one {X : Cx} {T : Tb} {E : XKs} {c : Expr} {f : BT} (h : DT X T E c f) : DTs X T E [c] f := ⟨pts_one h.pt⟩
/-- the list at p is being made -/
structure LeM (p : Addr) (O : Ow) (H : Hp) (O' : Ow) (H' : Hp) : Prop where
  pre : ∃ r, O'.cs = O.cs ++ r
  pv : O'.pv = p :: O.pv
  same : Same (hide O H) (hide O' H')
  keep : ∀ q ∈ O.pv, ∀ vs, H q = some (.lst vs) → H' q = some (.lst vs)
  np : p ∉ O.pv
section
variable {K : PySem.W.Frag} {mg : Str → Option Value} {T : Tb} {O O1 O2 : Ow} {H H1 H2 : Hp} {S : Store} {p : Addr}
theorem LeM.w (l : LeM p O H O1 H1) : Lw O H O1 H1 := ⟨l.pre, l.same⟩
theorem LeM.start (so : SOk K mg T O H S) (h : H p = none) : LeM p O H (O.make p) (upd H p (.lst [])) :=
  ⟨⟨[], by simp [Ow.make]⟩, rfl, by rw [hide_make h]; exact Same.refl _, fun q hq vs e => by
    rw [upd_ne (ne_of_none e h)]
    exact e, fun z => so.ne h (.inr z)⟩
theorem LeM.le (a : LeM p O H O1 H1) (b : Le O1 H1 O2 H2) : LeM p O H O2 H2 := by
  obtain ⟨r, e⟩ := a.pre
  obtain ⟨r', e'⟩ := b.pre
  exact ⟨⟨r ++ r', by rw [e', e]; simp⟩, b.pv.trans a.pv, a.same.trans b.same, fun q hq vs h => b.keep q (by rw [a.pv]; exact List.mem_cons_of_mem _ hq) vs (a.keep q hq vs h), a.np⟩
theorem LeM.made {vs : List V} (a : LeM p O H O1 H1) : LeM p O H O1 (upd H1 p (.lst vs)) :=
  ⟨a.pre, a.pv, by rw [hide_made (by rw [a.pv]; exact List.mem_cons_self)]; exact a.same, fun q hq us h => by
    rw [upd_ne (fun z => a.np (by rw [← z]; exact hq))]
    exact a.keep q hq us h, a.np⟩
theorem LeM.done (a : LeM p O H O1 H1) : Le O H (O1.done O.pv) H1 := ⟨a.pre, rfl, a.same.trans (hide_done a.pv), a.keep⟩
theorem LeM.cell (a : LeM p O H O1 H1) (so : SOk K mg T O1 H1 S) : Le O H ⟨O1.cs ++ [p], O.pv⟩ H1 := by
  obtain ⟨r, e⟩ := a.pre
  refine ⟨⟨r ++ [p], by rw [e]; simp⟩, rfl, a.same.trans fun b o h => ?_, a.keep⟩
  obtain ⟨n, h, t⟩ := hide_le h
  refine hide_of ?_ h t
  rintro (z | z)
  · rcases List.mem_append.mp z with z | z
    · exact n (.inl z)
    · exact n (.inr (by rw [a.pv, List.mem_singleton.mp z]; exact List.mem_cons_self))
  · exact n (.inr (by rw [a.pv]; exact List.mem_cons_of_mem _ z))
end
section
variable {X : Cx} {T : Tb} {E : XKs} {k : Nat}
/-- the loop of a comprehension, whatever becomes of the list -/
theorem lc_run {J : It} {g : TG} {tt : BT} {f : BE} {t : Tg} {vs : List Nat} {p : Its} {σ : L2.St} {env : Ev} {S : Store} {O : Ow} {H : Hp} {Qd : Addr → Hp → Prop} (eg : g = gT X.K t) (hv : ∀ i ∈ t.slots, i ∈ vs) (re : REnv X.K X.mg O.cs (hide O H) σ env) (so : SOk X.K X.mg T O H S) (dl : Dlv X.K X.mg T J p O H) (L : Addr) (hL : H L = none)
    (q : ∀ acc S', runLc t tt f (wipeE env vs) p S = .ok acc S' → ∀ O' H' us, LeM L O H O' H' → SOk X.K X.mg T O' H' S' → H' L = some (.lst us) → Rps X.K X.mg O'.cs (hide O' H') us acc → Qd L H') (hr : ∃ acc S', runLc t tt f (wipeE env vs) p S = .ok acc S') :
    ∃ W : Nat → Nat → Hp → Prop, (∃ m, W 0 m (upd H L (.lst []))) ∧ ∀ i m H, W i m H → (J.stop i H ∧ Qd L H) ∨ (J.go i H ∧ ∃ Nx : Hp → Prop, (∀ H', Nx H' → ∃ m', m' < m ∧ W (i + 1) m' H') ∧ ∀ x H', J.yld i H x H' →
      g x (L2.wipe σ vs) H' fun σ2 H2 => L2.wipe σ2 vs = L2.wipe σ vs ∧ tDT X.K X.mg T E0s tt σ2 H2 fun b H3 => if b = true then tD X.K X.mg T E0s f σ2 H3 fun y H4 => ∃ acc, H4 L = some (.lst acc) ∧ acc.length < sizeLine ∧ Nx (upd H4 L (.lst (acc ++ [y]))) else Nx H3) := by
  subst eg
  obtain ⟨accE, SE, hE⟩ := hr
  obtain ⟨Kp, d1, d2, d3⟩ := dl
  let St' : Nat → Hp → Prop := fun i H' => ∃ O' S' us acc, LeM L O H O' H' ∧ SOk X.K X.mg T O' H' S' ∧ Kp O' H' ∧ H' L = some (.lst us) ∧ Rps X.K X.mg O'.cs (hide O' H') us acc ∧ compM p.gd t tt f (wipeE env vs) (p.ds.drop i) acc S' = .ok accE SE
  refine ⟨fun i m H' => m = p.ds.length - i ∧ i ≤ p.ds.length ∧ St' i H', ⟨p.ds.length, by simp, Nat.zero_le _, O.make L, S, [], [], LeM.start so hL, so.make hL, d2 _ _ _ _ d1 (LeM.start so hL).w, upd_same, .nil, hE⟩, ?_⟩
  rintro i m H2 ⟨rfl, hi, O2, S2, us, acc, lm, so2, hk, hu, ra, e2⟩
  by_cases hlt : i < p.ds.length
  · rw [List.drop_eq_getElem_cons hlt, compM] at e2
    split at e2
    · rename_i hg
      obtain ⟨hgo, _⟩ := d3 i O2 H2 S2 hk so2 hg
      obtain ⟨go, hy⟩ := hgo _ (List.getElem?_eq_getElem hlt)
      refine .inr ⟨go, St' (i + 1), fun H' n => ⟨p.ds.length - (i + 1), by omega, rfl, by omega, n⟩, fun x H3 yx => ?_⟩
      obtain ⟨l3, so3, r3⟩ := hy x H3 yx
      cases ea : asg S2 t p.ds[i] (wipeE env vs) with
      | none => rw [ea] at e2; cases e2
      | some env3 =>
        rw [ea] at e2
        dsimp only at e2
        have lm3 := lm.le l3
        have re3 : REnv X.K X.mg O2.cs (hide O2 H3) (L2.wipe σ vs) (wipeE env vs) := by
          have := re.wipe vs
          exact ⟨this.1, fun i d e => by
            obtain ⟨v, h1, h2⟩ := this.2 i d e
            exact ⟨v, h1, h2.mono lm3.pre lm3.same⟩⟩
        refine gT_ok t re3 r3 ea fun σ4 re4 on => ⟨?_, ?_⟩
        · have hw := wipe_eq (σ := L2.wipe σ vs) (σ' := σ4) (vs := vs) ⟨on.1, fun j hj => on.2 j fun z => hj (hv j z)⟩
          have hww : L2.wipe (L2.wipe σ vs) vs = L2.wipe σ vs := wipe_eq ⟨wipe_length σ vs, fun j hj => wipe_out hj⟩
          rw [hw, hww]
        · refine ⟨env3, S2, O2, re4, so3, ?_⟩
          have hL3 : H3 L = some (.lst us) := l3.keep L (by rw [lm.pv]; exact List.mem_cons_self) us hu
          cases et : tt env3 S2 with
          | err c S5 => rw [et] at e2; cases e2
          | no => rw [et] at e2; cases e2
          | ok b S5 =>
            rw [et] at e2
            intro O5 H5 b' l5 so5 eb
            cases eb
            have lm5 := lm3.le l5
            have hL5 : H5 L = some (.lst us) := l5.keep L (by rw [lm3.pv]; exact List.mem_cons_self) us hL3
            have k5 : Kp O5 H5 := d2 _ _ _ _ hk (l3.trans l5).w
            have ra5 : Rps X.K X.mg O5.cs (hide O5 H5) us acc := ra.le (l3.trans l5)
            cases b with
            | false => exact ⟨O5, S5, us, acc, lm5, so5, k5, hL5, ra5, e2⟩
            | true =>
              dsimp only at e2
              refine ⟨env3, S5, O5, re4.mono l5, so5, ?_⟩
              cases ef : f env3 S5 with
              | err c S6 => rw [ef] at e2; cases e2
              | no => rw [ef] at e2; cases e2
              | ok y S6 =>
                rw [ef] at e2
                dsimp only at e2
                split at e2
                · rename_i hacc
                  intro O6 H6 v l6 so6 ry
                  have lm6 := lm5.le l6
                  have hL6 : H6 L = some (.lst us) := l6.keep L (by rw [lm5.pv]; exact List.mem_cons_self) us hL5
                  have mem : L ∈ O6.pv := by rw [lm6.pv]; exact List.mem_cons_self
                  refine ⟨us, hL6, by rw [ra5.length]; exact Nat.lt_of_lt_of_le hacc (by decide), O6, S6, us ++ [v], acc ++ [y], lm6.made, so6.made mem, ?_, upd_same, ?_, e2⟩
                  · refine d2 _ _ _ _ k5 ⟨l6.pre, ?_⟩
                    rw [hide_made mem]
                    exact l6.same
                  · rw [hide_made mem]
                    exact (ra5.le l6).app (.cons ry .nil)
                · cases e2
    · cases e2
  · have ei : i = p.ds.length := by omega
    subst ei
    rw [List.drop_length, compM] at e2
    split at e2
    · rename_i hg
      cases e2
      obtain ⟨_, hst⟩ := d3 _ O2 H2 _ hk so2 hg
      exact .inl ⟨hst (Nat.le_refl _), q _ _ hE O2 H2 us lm so2 hu ra⟩
    · cases e2
theorem compM_err {gd : Store → Bool} {t : Tg} {tt : BT} {f : BE} {env : Ev} : ∀ {ds acc : List D} {S : Store} {c : Str} {S' : Store}, compM gd t tt f env ds acc S ≠ .err c S'
  | [], acc, S, c, S' => by
    rw [compM]
    split <;> (intro z; cases z)
  | d :: ds, acc, S, c, S' => by
    rw [compM]
    split
    · split
      · intro z; cases z
      · split
        · split
          · split
            · exact compM_err
            · intro z; cases z
          · intro z; cases z
        · exact compM_err
        · intro z; cases z
    · intro z; cases z
theorem lc_done {O O1 : Ow} {H H1 : Hp} {S1 : Store} {p : Addr} {us : List V} {acc : List D} {Q : VK} {Ex : XK} (lm : LeM p O H O1 H1) (so : SOk X.K X.mg T O1 H1 S1) (hu : H1 p = some (.lst us)) (r : Rps X.K X.mg O1.cs (hide O1 H1) us acc) (q : Po X.K X.mg T (Rp X.K X.mg) (.ok (.list acc) S1) O H Q Ex) : Q (.ref p) H1 := by
  have np := (so.own p (by rw [lm.pv]; exact List.mem_cons_self)).1
  refine q (O1.done O.pv) H1 (.ref p) lm.done (so.done lm.pv) (.lst (hide_of ?_ hu) (r.mono ⟨[], by simp [Ow.done]⟩ (hide_done lm.pv)))
  rintro (z | z)
  · exact np z
  · exact lm.np z
theorem lc_cell {O O1 : Ow} {H H1 : Hp} {S1 : Store} {p : Addr} {us : List V} {acc : List D} {Q : VK} {Ex : XK} (lm : LeM p O H O1 H1) (so : SOk X.K X.mg T O1 H1 S1) (hu : H1 p = some (.lst us)) (r : Rps X.K X.mg O1.cs (hide O1 H1) us acc) (q : Po X.K X.mg T (Rp X.K X.mg) (newCell acc S1) O H Q Ex) : Q (.ref p) H1 := by
  unfold newCell at q
  split at q
  · rename_i hf
    have np := (so.own p (by rw [lm.pv]; exact List.mem_cons_self)).1
    have l := lm.cell so
    have vis : Same (hide O1 H1) (hide ⟨O1.cs ++ [p], O.pv⟩ H1) := fun b o h => by
      obtain ⟨n, h, t⟩ := hide_le h
      refine hide_of ?_ h t
      rintro (z | z)
      · rcases List.mem_append.mp z with z | z
        · exact n (.inl z)
        · exact n (.inr (by rw [lm.pv, List.mem_singleton.mp z]; exact List.mem_cons_self))
      · exact n (.inr (by rw [lm.pv]; exact List.mem_cons_of_mem _ z))
    refine q ⟨O1.cs ++ [p], O.pv⟩ H1 (.ref p) l ⟨by simp [so.len], ?_, fun m b c e1 e2 => ?_, so.tabs, T.mono ⟨⟨[p], rfl⟩, vis⟩ so.inv, fun x hx => ?_⟩ (.cell (by rw [← so.len, List.getElem?_append_right (Nat.le_refl _)]; simp))
    · show (O1.cs ++ [p]).Nodup
      rw [List.nodup_append]
      exact ⟨so.nd, by simp, by simpa using fun a ha e => np (by rw [← e]; exact ha)⟩
    · by_cases hm : m < O1.cs.length
      · have e1 : O1.cs[m]? = some b := by
          have e1 : (O1.cs ++ [p])[m]? = some b := e1
          rw [List.getElem?_append_left hm] at e1
          exact e1
        rw [List.getElem?_append_left (by rw [← so.len]; exact hm)] at e2
        have := so.cell m b c e1 e2
        cases c with
        | lst ds' =>
          obtain ⟨vs', z, t'⟩ := this
          exact ⟨vs', z, t'.mono ⟨[], rfl⟩ vis⟩
      · have e1 : ([p] : List Addr)[m - O1.cs.length]? = some b := by
          have e1 : (O1.cs ++ [p])[m]? = some b := e1
          rw [List.getElem?_append_right (by omega)] at e1
          exact e1
        rw [List.getElem?_append_right (by rw [← so.len]; omega)] at e2
        have : m - O1.cs.length = 0 := by
          have := (List.getElem?_eq_some_iff.mp e1).1
          simp at this
          omega
        rw [this] at e1
        rw [← so.len, this] at e2
        simp at e1 e2
        subst e1 e2
        exact ⟨us, hu, Rps.mono (O := []) (O' := []) ⟨[], rfl⟩ vis (r.fix hf)⟩
    · obtain ⟨h1, h2⟩ := so.own x (by rw [lm.pv]; exact List.mem_cons_of_mem _ hx)
      refine ⟨fun z => ?_, h2⟩
      rcases List.mem_append.mp z with z | z
      · exact h1 z
      · exact lm.np (by rw [← List.mem_singleton.mp z]; exact hx)
  · exact q.elim
theorem t_lc {wi : BI} {t : Tg} {tt : BT} {f : BE} {vs : List Nat} {fin : List D → M D} (hv : t.slots.all (fun i => vs.contains i) = true)
    (hfin : ∀ {O O1 : Ow} {H H1 : Hp} {S1 : Store} {p : Addr} {us : List V} {acc : List D} {Q : VK} {Ex : XK}, LeM p O H O1 H1 → SOk X.K X.mg T O1 H1 S1 → H1 p = some (.lst us) → Rps X.K X.mg O1.cs (hide O1 H1) us acc → Po X.K X.mg T (Rp X.K X.mg) (fin acc S1) O H Q Ex → Q (.ref p) H1) :
    ∀ σ H Q, tD X.K X.mg T E (fun env => wi env >>= fun p => runLc t tt f (wipeE env vs) p >>= fin) σ H Q → tLc (tDI X.K X.mg T E wi) (gT X.K t) (tDT X.K X.mg T E0s tt) (tD X.K X.mg T E0s f) vs σ H Q := fun σ H Q ⟨env, S, O, re, so, q⟩ => by
  refine ⟨env, S, O, re, so, ?_⟩
  have q : Po X.K X.mg T (Rp X.K X.mg) ((wi env >>= fun p => runLc t tt f (wipeE env vs) p >>= fin) S) O H Q (E σ) := q
  rw [bd_ap] at q
  cases e : wi env S with
  | no => rw [e] at q; exact q
  | err x S1 => rw [e] at q; exact q
  | ok p S1 =>
    rw [e] at q
    intro O1 H1 J l so1 dl
    have q : Po X.K X.mg T (Rp X.K X.mg) ((runLc t tt f (wipeE env vs) p >>= fin) S1) O H Q (E σ) := q
    rw [bd_ap] at q
    cases e2 : runLc t tt f (wipeE env vs) p S1 with
    | no => rw [e2] at q; exact q.elim
    | err x S2 => exact absurd e2 compM_err
    | ok acc S2 =>
      rw [e2] at q
      have hv' : ∀ i ∈ t.slots, i ∈ vs := fun i hi => by simpa using List.all_eq_true.mp hv i hi
      exact fun L hL => lc_run (Qd := fun L H => Q (.ref L) H) rfl hv' (re.mono l) so1 dl L hL (fun acc' S' h O' H' us lm so' hu r => by
        rw [e2] at h
        cases h
        exact hfin lm so' hu r (Po.le q l)) ⟨acc, S2, e2⟩
section
variable {elt tg iter : Expr} {ifs : List Expr} {scope : Scope} {pos : Pos} {wi : BI} {t : Tg} {tt : BT} {f : BE}
theorem de_lcF {fin : List D → M D} (own : List (Str × Nat)) (c : Cok X E k) (hi : DI X T E tg iter wi) (ok : BlkOk X.N X.env.scope scope own) (hv : t.slots.all (fun i => (own.map (·.2)).contains i) = true)
    (hfin : ∀ {O O1 : Ow} {H H1 : Hp} {S1 : Store} {p : Addr} {us : List V} {acc : List D} {Q : VK} {Ex : XK}, LeM p O H O1 H1 → SOk X.K X.mg T O1 H1 S1 → H1 p = some (.lst us) → Rps X.K X.mg O1.cs (hide O1 H1) us acc → Po X.K X.mg T (Rp X.K X.mg) (fin acc S1) O H Q Ex → Q (.ref p) H1)
    (hg : ∀ (s : Shared) (H : Hp) (C : Addr) (cl : List (Str × Addr)) (fp : List Addr), DG (X.blk s H scope (compEnvC scope cl C X.env) fp) tg t)
    (ht : ∀ (s : Shared) (H : Hp) (C : Addr) (cl : List (Str × Addr)) (fp : List Addr), Cok (X.blk s H scope (compEnvC scope cl C X.env) fp) E0s k → DTs (X.blk s H scope (compEnvC scope cl C X.env) fp) T E0s ifs tt)
    (he : ∀ (s : Shared) (H : Hp) (C : Addr) (cl : List (Str × Addr)) (fp : List Addr), Cok (X.blk s H scope (compEnvC scope cl C X.env) fp) E0s k → DE (X.blk s H scope (compEnvC scope cl C X.env) fp) T E0s elt f)
    (hs : ∀ x, foldedSetIterable iter X.env x = pure x) : DE X T E (.ListComp elt [⟨tg, iter, ifs, 0⟩] scope pos) (fun env => wi env >>= fun p => runLc t tt f (wipeE env (own.map (·.2))) p >>= fin) :=
  ⟨(pe_lc c.calm c.nd hi.pi ok (fun s H C cl fp => (hg s H C cl fp).pg) (fun s H C cl fp => (ht s H C cl fp (c.blk ..)).pt) (fun s H C cl fp => (he s H C cl fp (c.blk ..)).pe) hs).monoZ (t_lc hv hfin)⟩
theorem de_lc (own : List (Str × Nat)) (c : Cok X E k) (hi : DI X T E tg iter wi)
    (hg : ∀ (s : Shared) (H : Hp) (C : Addr) (cl : List (Str × Addr)) (fp : List Addr), DG (X.blk s H scope (compEnvC scope cl C X.env) fp) tg t)
    (ht : ∀ (s : Shared) (H : Hp) (C : Addr) (cl : List (Str × Addr)) (fp : List Addr), Cok (X.blk s H scope (compEnvC scope cl C X.env) fp) E0s k → DTs (X.blk s H scope (compEnvC scope cl C X.env) fp) T E0s ifs tt)
    (he : ∀ (s : Shared) (H : Hp) (C : Addr) (cl : List (Str × Addr)) (fp : List Addr), Cok (X.blk s H scope (compEnvC scope cl C X.env) fp) E0s k → DE (X.blk s H scope (compEnvC scope cl C X.env) fp) T E0s elt f)
    (ok : BlkOk X.N X.env.scope scope own := by exact blkOk_by (by decide +kernel)) (hv : t.slots.all (fun i => (own.map (·.2)).contains i) = true := by rfl) (hs : ∀ x, foldedSetIterable iter X.env x = pure x := by intro _; rfl) :
    DE X T E (.ListComp elt [⟨tg, iter, ifs, 0⟩] scope pos) (eLc (own.map (·.2)) wi t tt f) := de_lcF own c hi ok hv lc_done hg ht he hs
theorem de_lcC (own : List (Str × Nat)) (c : Cok X E k) (hi : DI X T E tg iter wi)
    (hg : ∀ (s : Shared) (H : Hp) (C : Addr) (cl : List (Str × Addr)) (fp : List Addr), DG (X.blk s H scope (compEnvC scope cl C X.env) fp) tg t)
    (ht : ∀ (s : Shared) (H : Hp) (C : Addr) (cl : List (Str × Addr)) (fp : List Addr), Cok (X.blk s H scope (compEnvC scope cl C X.env) fp) E0s k → DTs (X.blk s H scope (compEnvC scope cl C X.env) fp) T E0s ifs tt)
    (he : ∀ (s : Shared) (H : Hp) (C : Addr) (cl : List (Str × Addr)) (fp : List Addr), Cok (X.blk s H scope (compEnvC scope cl C X.env) fp) E0s k → DE (X.blk s H scope (compEnvC scope cl C X.env) fp) T E0s elt f)
    (ok : BlkOk X.N X.env.scope scope own := by exact blkOk_by (by decide +kernel)) (hv : t.slots.all (fun i => (own.map (·.2)).contains i) = true := by rfl) (hs : ∀ x, foldedSetIterable iter X.env x = pure x := by intro _; rfl) :
    DE X T E (.ListComp elt [⟨tg, iter, ifs, 0⟩] scope pos) (eLcC (own.map (·.2)) wi t tt f) := de_lcF own c hi ok hv lc_cell hg ht he hs
/-- name = [..] on one line -/
theorem ds_lcF {fin : List D → M D} (i : Nat) {y : Str} {py spos : Pos} (own : List (Str × Nat)) (c : Cok X E k) (hi : DI X T E tg iter wi) (hy : X.N[i]? = some y) (hyl : X.env.scope.names.lookup y = some .local) (hsw : swapsWith (.ListComp elt [⟨tg, iter, ifs, 0⟩] scope pos) (some (.Name y py)) spos.line X.env = pure true) (ok : BlkOk X.N X.env.scope scope own) (hv : t.slots.all (fun i => (own.map (·.2)).contains i) = true)
    (hfin : ∀ {O O1 : Ow} {H H1 : Hp} {S1 : Store} {p : Addr} {us : List V} {acc : List D} {Q : VK} {Ex : XK}, LeM p O H O1 H1 → SOk X.K X.mg T O1 H1 S1 → H1 p = some (.lst us) → Rps X.K X.mg O1.cs (hide O1 H1) us acc → Po X.K X.mg T (Rp X.K X.mg) (fin acc S1) O H Q Ex → Q (.ref p) H1)
    (hg : ∀ (s : Shared) (H : Hp) (C : Addr) (cl : List (Str × Addr)) (fp : List Addr), DG (X.blk s H scope (compEnvC scope cl C X.env) fp) tg t)
    (ht : ∀ (s : Shared) (H : Hp) (C : Addr) (cl : List (Str × Addr)) (fp : List Addr), Cok (X.blk s H scope (compEnvC scope cl C X.env) fp) E0s k → DTs (X.blk s H scope (compEnvC scope cl C X.env) fp) T E0s ifs tt)
    (he : ∀ (s : Shared) (H : Hp) (C : Addr) (cl : List (Str × Addr)) (fp : List Addr), Cok (X.blk s H scope (compEnvC scope cl C X.env) fp) E0s k → DE (X.blk s H scope (compEnvC scope cl C X.env) fp) T E0s elt f)
    (hs : ∀ x, foldedSetIterable iter X.env x = pure x) : DS X T E (.Assign [.Name y py] (.ListComp elt [⟨tg, iter, ifs, 0⟩] scope pos) spos) (sSet i (fun env => wi env >>= fun p => runLc t tt f (wipeE env (own.map (·.2))) p >>= fin)) :=
  ⟨(ps_setLc c.calm c.nd hy hyl hsw hi.pi ok (fun s H C cl fp => (hg s H C cl fp).pg) (fun s H C cl fp => (ht s H C cl fp (c.blk ..)).pt) (fun s H C cl fp => (he s H C cl fp (c.blk ..)).pe) hs).monoZ fun Dn σ H ⟨env, S, O, re, so, q⟩ => by
    refine t_lc (wi := wi) (t := t) (tt := tt) (f := f) hv hfin σ H (fun x H1 => gName i x σ H1 Dn.nx) ⟨env, S, O, re, so, ?_⟩
    exact PoS.bind re q fun a S1 O1 H1 b l s r q1 => q1 O1 H1 _ Le.refl s ((re.mono l).set r)⟩
theorem ds_lc (i : Nat) {y : Str} {py spos : Pos} (own : List (Str × Nat)) (c : Cok X E k) (hi : DI X T E tg iter wi)
    (hg : ∀ (s : Shared) (H : Hp) (C : Addr) (cl : List (Str × Addr)) (fp : List Addr), DG (X.blk s H scope (compEnvC scope cl C X.env) fp) tg t)
    (ht : ∀ (s : Shared) (H : Hp) (C : Addr) (cl : List (Str × Addr)) (fp : List Addr), Cok (X.blk s H scope (compEnvC scope cl C X.env) fp) E0s k → DTs (X.blk s H scope (compEnvC scope cl C X.env) fp) T E0s ifs tt)
    (he : ∀ (s : Shared) (H : Hp) (C : Addr) (cl : List (Str × Addr)) (fp : List Addr), Cok (X.blk s H scope (compEnvC scope cl C X.env) fp) E0s k → DE (X.blk s H scope (compEnvC scope cl C X.env) fp) T E0s elt f)
    (hy : X.N[i]? = some y := by rfl) (hyl : X.env.scope.names.lookup y = some .local := by rfl) (hsw : swapsWith (.ListComp elt [⟨tg, iter, ifs, 0⟩] scope pos) (some (.Name y py)) spos.line X.env = pure true := by exact sw_true rfl rfl rfl (by decide +kernel))
    (ok : BlkOk X.N X.env.scope scope own := by exact blkOk_by (by decide +kernel)) (hv : t.slots.all (fun i => (own.map (·.2)).contains i) = true := by rfl) (hs : ∀ x, foldedSetIterable iter X.env x = pure x := by intro _; rfl) :
    DS X T E (.Assign [.Name y py] (.ListComp elt [⟨tg, iter, ifs, 0⟩] scope pos) spos) (sSet i (eLc (own.map (·.2)) wi t tt f)) := ds_lcF i own c hi hy hyl hsw ok hv lc_done hg ht he hs
theorem ds_lcC (i : Nat) {y : Str} {py spos : Pos} (own : List (Str × Nat)) (c : Cok X E k) (hi : DI X T E tg iter wi)
    (hg : ∀ (s : Shared) (H : Hp) (C : Addr) (cl : List (Str × Addr)) (fp : List Addr), DG (X.blk s H scope (compEnvC scope cl C X.env) fp) tg t)
    (ht : ∀ (s : Shared) (H : Hp) (C : Addr) (cl : List (Str × Addr)) (fp : List Addr), Cok (X.blk s H scope (compEnvC scope cl C X.env) fp) E0s k → DTs (X.blk s H scope (compEnvC scope cl C X.env) fp) T E0s ifs tt)
    (he : ∀ (s : Shared) (H : Hp) (C : Addr) (cl : List (Str × Addr)) (fp : List Addr), Cok (X.blk s H scope (compEnvC scope cl C X.env) fp) E0s k → DE (X.blk s H scope (compEnvC scope cl C X.env) fp) T E0s elt f)
    (hy : X.N[i]? = some y := by rfl) (hyl : X.env.scope.names.lookup y = some .local := by rfl) (hsw : swapsWith (.ListComp elt [⟨tg, iter, ifs, 0⟩] scope pos) (some (.Name y py)) spos.line X.env = pure true := by exact sw_true rfl rfl rfl (by decide +kernel))
    (ok : BlkOk X.N X.env.scope scope own := by exact blkOk_by (by decide +kernel)) (hv : t.slots.all (fun i => (own.map (·.2)).contains i) = true := by rfl) (hs : ∀ x, foldedSetIterable iter X.env x = pure x := by intro _; rfl) :
    DS X T E (.Assign [.Name y py] (.ListComp elt [⟨tg, iter, ifs, 0⟩] scope pos) spos) (sSet i (eLcC (own.map (·.2)) wi t tt f)) := ds_lcF i own c hi hy hyl hsw ok hv lc_cell hg ht he hs
end
end
end Z
end
section
set_option maxHeartbeats 4000000
namespace Z
open PySem PySem.Spec PyProof.Rows L2

/-! ### defs -/
def spD (K : PySem.W.Frag) (mg : Str → Option Value) (T : Tb) (n : Nat) (g : List D → M D) : Sp := fun vs H Q E => ∃ ds S O, ds.length = n ∧ Rps K mg O.cs (hide O H) vs ds ∧ SOk K mg T O H S ∧ Po K mg T (Rp K mg) (g ds S) O H Q E
structure Fn (P : Program) (w : World) (K : PySem.W.Frag) (mg : Str → Option Value) (base : Heap) (T : Tb) (k : Nat) (x : Str) (n : Nat) (g : List D → M D) : Prop where
  ex : ∃ f fd ps, mg x = some (.ref f) ∧ PySem.W.keepIn K (.ref f) = true ∧ Binds K fd ps [] ∧ ps.length = n ∧ FnOk P w K mg base (L2N.CX P w) k f fd ps (spD K mg T n g)
theorem Fn.mono {P : Program} {w : World} {K : PySem.W.Frag} {mg : Str → Option Value} {base : Heap} {T : Tb} {j k : Nat} {x : Str} {n : Nat} {g : List D → M D} (F : Fn P w K mg base T j x n g) (h : j ≤ k) : Fn P w K mg base T k x n g := by
  obtain ⟨f, fd, ps, h1, h2, h3, h4, h5⟩ := F.ex
  exact ⟨f, fd, ps, h1, h2, h3, h4, h5.mono h⟩
theorem Fn.imp {P : Program} {w : World} {K : PySem.W.Frag} {mg : Str → Option Value} {base : Heap} {T : Tb} {k : Nat} {x : Str} {n : Nat} {g g' : List D → M D} (F : Fn P w K mg base T k x n g)
    (h : ∀ ds S, ds.length = n → g' ds S ≠ .no → g ds S = g' ds S) : Fn P w K mg base T k x n g' := by
  obtain ⟨f, fd, ps, h1, h2, h3, h4, h5⟩ := F.ex
  refine ⟨f, fd, ps, h1, h2, h3, h4, h5.imp fun vs H Q E ⟨ds, S, O, e, r, so, q⟩ => ⟨ds, S, O, e, r, so, ?_⟩⟩
  rw [h ds S e (fun z => by rw [z] at q; exact q)]
  exact q
section
variable {X : Cx} {T : Tb} {E : XKs} {k j : Nat}
def eCall (n : Nat) (g : List D → M D) (fs : BA) : BE := fun env => fs env >>= fun as => if as.length = n then g as else no
theorem de_call {x : Str} {n : Nat} {g : List D → M D} {e : Expr} {es : List Expr} {fs : BA} {p pos : Pos} (F : Fn X.prog X.w X.K X.mg X.base T j x n g) (c : Cok X E k) (ha : DA X T E (e :: es) fs) (hj : j ≤ k := by decide) (hg : Gl X x := by rfl)
    (hdb : (x == ("__debug__" : Str)) = false := by decide) (he : starEach (e :: es) X.env = (false, eval e X.env) :: starEach es X.env := by rfl) (hpl : (backTo pos (starEach es X.env)).any (·.1) = false := by rfl) : DE X T E (.Call (.Name x p) (e :: es) [] pos) (eCall n g fs) := by
  obtain ⟨f, fd, ps, h1, h2, h3, h4, h5⟩ := F.ex
  refine ⟨(pe_callS h5 (c.room.mono hj) hg h1 h2 h3 c.pass ha.pa hdb he hpl).monoZ fun σ H Q ⟨env, S, O, re, so, q⟩ => ⟨env, S, O, re, so, Po.bind q fun as S1 O1 H1 xs l s1 r1 q1 => ?_⟩⟩
  by_cases hl : as.length = n
  · rw [if_pos hl] at q1
    exact ⟨as, S1, O1, hl, r1, s1, q1⟩
  · rw [if_neg hl] at q1
    exact q1.elim
end
/-- the end of a def's body; tidy: a cell of its own is handed back as a list, its cells are forgotten -/
def endT (m : Nat) (d : D) : M D := fun S => match d with
  | .cell n => if n < m then .ok (.cell n) (S.take m) else (match S[n]? with
    | some (.lst ds) => if fixDs ds = true then .ok (.list ds) (S.take m) else .no
    | none => .no)
  | d => if fixD d = true then .ok d (S.take m) else .no
def endF (td : Bool) (m : Nat) (r : SR) : Res D := match r with
  | .next _ S => if td = true then .ok .none (S.take m) else .ok .none S
  | .ret d S => if td = true then endT m d S else .ok d S
  | .err c _ S => .err c S
  | _ => .no
def fnOf (td : Bool) (n : Nat) (b : BS) : List D → M D := fun ds S => endF td S.length (b (ds.map some ++ List.replicate (n - ds.length) Option.none) S)
section
variable {K : PySem.W.Frag} {mg : Str → Option Value} {T : Tb} {O O' : Ow} {H H' : Hp} {S S' : Store}
theorem renv_start {G : Hp} {Oc : List Addr} {N : List Str} {vs : List V} {ds : List D} (r : Rps K mg Oc G vs ds) (hn : ds.length ≤ N.length) : REnv K mg Oc G (L2.start N vs) (ds.map some ++ List.replicate (N.length - ds.length) none) :=
  ⟨by unfold L2.start; simp [r.length], fun i d e => by
    unfold L2.start
    by_cases hi : i < ds.length
    · rw [List.getElem?_append_left (by simpa using hi), List.getElem?_map] at e
      obtain ⟨d', h1, h2⟩ := Option.map_eq_some_iff.mp e
      cases h2
      obtain ⟨v, h3, h4⟩ := r.get h1
      exact ⟨v, by rw [List.getElem?_append_left (by rw [List.length_map, r.length]; exact hi), List.getElem?_map, h3]; rfl, h4⟩
    · rw [List.getElem?_append_right (by simpa using hi), List.getElem?_replicate] at e
      split at e <;> cases e⟩
/-- the cells behind the first ones are forgotten -/
def Ow.cut (O : Ow) (m : Nat) : Ow := ⟨O.cs.take m, O.pv⟩
theorem hide_cut {m : Nat} : Same (hide O H) (hide (O.cut m) H) := fun a o h => by
  obtain ⟨n, h, t⟩ := hide_le h
  exact hide_of (fun z => n (z.elim (fun z => .inl (List.mem_of_mem_take z)) .inr)) h t
theorem le_cut (so : SOk K mg T O H S) (l : Le O H O' H') : Le O H (O'.cut S.length) H' := by
  obtain ⟨r, e⟩ := l.pre
  refine ⟨⟨[], ?_⟩, l.pv, l.same.trans hide_cut, l.keep⟩
  show O'.cs.take S.length = O.cs ++ []
  rw [e, ← so.len]
  simp
theorem sok_cut (s0 : SOk K mg T O H S) (l : Le O H O' H') (so : SOk K mg T O' H' S') : SOk K mg T (O'.cut S.length) H' (S'.take S.length) := by
  refine ⟨?_, ?_, fun n a c e1 e2 => ?_, so.tabs, T.mono (le_cut s0 l).w s0.inv, fun p hp => ⟨fun z => (so.own p hp).1 (List.mem_of_mem_take z), (so.own p hp).2⟩⟩
  · show (O'.cs.take S.length).length = (S'.take S.length).length
    simp [so.len]
  · exact so.nd.sublist (List.take_sublist _ _)
  · have e1 : (O'.cs.take S.length)[n]? = some a := e1
    have hn : n < S.length := by
      have := (List.getElem?_eq_some_iff.mp e1).1
      simp at this
      omega
    rw [List.getElem?_take_of_lt hn] at e1 e2
    have := so.cell n a c e1 e2
    cases c with
    | lst ds =>
      obtain ⟨vs, z, t⟩ := this
      exact ⟨vs, z, Rps.mono (O := []) (O' := []) ⟨[], rfl⟩ hide_cut t⟩
theorem endT_ok {d : D} {v : V} {Q : VK} {Ex : XK} (so : SOk K mg T O H S) (l : Le O H O' H') (so' : SOk K mg T O' H' S') (r : Rp K mg O'.cs (hide O' H') v d) (q : Po K mg T (Rp K mg) (endT S.length d S') O H Q Ex) : Q v H' := by
  have fixed : ∀ {d : D}, Rp K mg O'.cs (hide O' H') v d → Po K mg T (Rp K mg) (if fixD d = true then .ok d (S'.take S.length) else .no) O H Q Ex → Q v H' := fun {d} r q => by
    split at q
    · rename_i hf
      exact q (O'.cut S.length) H' v (le_cut so l) (sok_cut so l so') (Rp.mono (O := (O'.cut S.length).cs) ⟨[], by simp⟩ hide_cut (r.fix hf))
    · exact q.elim
  cases r with
  | cell hO =>
    rename_i a n
    unfold endT at q
    dsimp only at q
    split at q
    · rename_i hn
      exact q (O'.cut S.length) H' _ (le_cut so l) (sok_cut so l so') (.cell (by show (O'.cs.take S.length)[n]? = some a; rw [List.getElem?_take_of_lt hn]; exact hO))
    · rename_i hn
      split at q
      · rename_i ds hds
        split at q
        · rename_i hf
          obtain ⟨vs, h1, h2⟩ := sok_cell so' hO hds
          refine q (O'.cut S.length) H' _ (le_cut so l) (sok_cut so l so') (.lst (hide_of ?_ h1) (Rps.mono (O := (O'.cut S.length).cs) ⟨[], by simp⟩ hide_cut (h2.fix hf)))
          rintro (z | z)
          · have z : a ∈ O'.cs.take S.length := z
            obtain ⟨i, hi, e⟩ := List.getElem_of_mem z
            simp at hi
            have e1 : O'.cs[i]? = some a := by
              rw [List.getElem_take] at e
              rw [List.getElem?_eq_getElem (by omega), e]
            obtain ⟨l1, q1⟩ := List.getElem?_eq_some_iff.mp e1
            obtain ⟨l2, q2⟩ := List.getElem?_eq_some_iff.mp hO
            have := (List.getElem_inj so'.nd).mp (q1.trans q2.symm)
            omega
          · exact so'.own_ne hO z
        · exact q.elim
      · exact q.elim
  | non => exact fixed .non q
  | bl b => exact fixed (.bl b) q
  | int b => exact fixed (.int b) q
  | str b => exact fixed (.str b) q
  | lst h t => exact fixed (.lst h t) q
  | tup h t => exact fixed (.tup h t) q
  | frz h t => exact fixed (.frz h t) q
  | fn h => exact fixed (.fn h) q
  | adr a => exact fixed (.adr a) q
end
theorem cok_def {P : Program} {w : World} {K : PySem.W.Frag} {mg : Str → Option Value} {base : Heap} {N ps : List Str} {qual : Str} {scope : Scope} {f : Addr} {cd : Value} {A : Around} {outer : List Env} {s : Shared} {H : Hp} {E : XK} {k : Nat} (S : FnScope N ps scope)
    (hr : Room k (A.deeper (envOfC qual scope s.heap.objs.size f cd))) : Cok (cxOf (L2N.CX P w) P w K mg base N qual scope f cd A outer s H E) (fun _ => E) k :=
  have tk : L2N.Takes (cxOf (L2N.CX P w) P w K mg base N qual scope f cd A outer s H E) (fun c d _ H => E c d H) := L2N.takes_of rfl rfl rfl rfl
  ⟨rfl, S.nd, fun σ => L2N.passAt tk σ, passes_of rfl, hr, tk⟩
/-- a def by its body, its promise -/
theorem fn_okd {P : Program} {w : World} {K : PySem.W.Frag} {mg : Str → Option Value} {base : Heap} {T : Tb} {k : Nat} {x : Str} {st : Stmt} {f : Addr} {fd : FuncData} {N ps : List Str} {g : List D → M D} {ι : Type} {td : Bool} {b : ι → BS}
    (F : L2.Fun K x x st f fd) (S : FnScope N ps (defScope st))
    (body : ∀ (i : ι) (cdv : Value) (A : Around) (outer : List Env) (s : Shared) (H : Hp) (E : XK), fd.code = cdv → Cok (cxOf (L2N.CX P w) P w K mg base N x (defScope st) f cdv A outer s H E) (fun _ => E) k → DSs (cxOf (L2N.CX P w) P w K mg base N x (defScope st) f cdv A outer s H E) T (fun _ => E) (defBody st) (b i))
    (hg : ∀ ds S0, ds.length = ps.length → g ds S0 ≠ .no → ∃ i, fnOf td N.length (b i) ds S0 = g ds S0) : FnOk P w K mg base (L2N.CX P w) (k + 1) f fd ps (spD K mg T ps.length g) := by
  obtain ⟨oc, od, kV, doc, pm, an, cdv, ct, osl, rfl, lk, hcd⟩ := F.ex
  refine fn_of lk hcd S (fun vs H Q E ⟨ds, S0, O, e, r, _, _⟩ => by rw [r.length, e]) fun A outer s H vs Q E hr ⟨ds, S0, O, e, r, so, q⟩ => ?_
  obtain ⟨i, ei⟩ := hg ds S0 e fun z => by rw [z] at q; exact q
  rw [← ei] at q
  have hpl : ps.length ≤ N.length := by have := congrArg List.length S.pre; rw [List.length_take] at this; omega
  refine ⟨_, (body i cdv A outer s H E rfl (cok_def S hr)).pss, ds.map some ++ List.replicate (N.length - ds.length) none, S0, O, renv_start r (by omega), so, ?_⟩
  have q : Po K mg T (Rp K mg) (endF td S0.length (b i (ds.map some ++ List.replicate (N.length - ds.length) none) S0)) O H Q E := q
  show PoS K mg T (b i (ds.map some ++ List.replicate (N.length - ds.length) none) S0) O H { nx := fun _ H' => Q .non H', rt := Q } (fun _ => E)
  cases eb : b i (ds.map some ++ List.replicate (N.length - ds.length) none) S0 with
  | next env S' =>
    rw [eb] at q
    intro O' H' σ' l so' re
    unfold endF at q
    dsimp only at q
    split at q
    · exact q (O'.cut S0.length) H' .non (le_cut so l) (sok_cut so l so') .non
    · exact q O' H' .non l so' .non
  | ret d S' =>
    rw [eb] at q
    intro O' H' v l so' rv
    unfold endF at q
    dsimp only at q
    split at q
    · exact endT_ok so l so' rv q
    · exact q O' H' v l so' rv
  | err c env S' =>
    rw [eb] at q
    exact fun O' H' σ' C l so' _ z => q O' H' C l so' z
  | brk env S' => rw [eb] at q; exact (show False from q).elim
  | cont env S' => rw [eb] at q; exact (show False from q).elim
  | no => rw [eb] at q; exact q

/-- a def by its body -/
theorem fn_def {P : Program} {w : World} {K : PySem.W.Frag} {mg : Str → Option Value} {base : Heap} {T : Tb} {k : Nat} {x : Str} {st : Stmt} {f : Addr} {fd : FuncData} {N ps : List Str} {g : List D → M D} {ι : Type} {td : Bool} {b : ι → BS}
    (F : L2.Fun K x x st f fd) (S : FnScope N ps (defScope st)) (hm : mg x = some (.ref f)) (hb : Binds K fd ps [])
    (body : ∀ (i : ι) (cdv : Value) (A : Around) (outer : List Env) (s : Shared) (H : Hp) (E : XK), fd.code = cdv → Cok (cxOf (L2N.CX P w) P w K mg base N x (defScope st) f cdv A outer s H E) (fun _ => E) k → DSs (cxOf (L2N.CX P w) P w K mg base N x (defScope st) f cdv A outer s H E) T (fun _ => E) (defBody st) (b i))
    (hg : ∀ ds S0, ds.length = ps.length → g ds S0 ≠ .no → ∃ i, fnOf td N.length (b i) ds S0 = g ds S0) : Fn P w K mg base T (k + 1) x ps.length g :=
  ⟨f, fd, ps, hm, F.kp, hb, rfl, fn_okd (b := b) (td := td) F S body hg⟩
/-! ### raise -/
structure Ex (K : PySem.W.Frag) (mg : Str → Option Value) (x : Str) : Prop where
  ex : ∃ C, mg x = some (.ref C) ∧ PySem.W.excIn K C [.type "ValueError", .type "Exception", .type "BaseException", .type "object"] "ValueError.__new__" = true ∧ PySem.W.keepIn K (.ref C) = true ∧
    PySem.W.subIn K (.ref C) (.type "BaseException") = some true ∧ PySem.W.typeIn K (.ref C) = some (.type "type")
section
variable {X : Cx} {T : Tb} {E : XKs} {k : Nat}
theorem ds_raise {x m : Str} {j : Nat} {p p2 pos rpos : Pos} (c : Cok X E k) (xe : Ex X.K X.mg x) (hg : Gl X x := by rfl) (hdb : (x == ("__debug__" : Str)) = false := by decide) : DS X T E (.Raise (some (.Call (.Name x p) [.Constant (.str m) j p2] [] pos)) none rpos) (sRaise x) := by
  obtain ⟨C, h1, h2, h3, h4, h5⟩ := xe.ex
  exact ⟨(L2N.ps_raise c.calm c.tk (L2N.pmk_own PySem.F.excBase_ValueError h2 h1 h3 (raises_own h4 h5) hg hdb)).monoZ fun Dn σ H ⟨env, S, O, re, so, q⟩ => q O H σ C Le.refl so re h1⟩

/-! ### lists that change -/
def cellAt (d : D) : M (Nat × List D) := fun S => match d with
  | .cell n => (match S[n]? with
    | some (.lst ds) => .ok (n, ds) S
    | none => .no)
  | _ => .no
def setCell (n : Nat) (ds : List D) (d : D) : M D := fun S => .ok d (S.set n (.lst ds))
def push (a y : D) : M D := cellAt a >>= fun p => if fixD y = true ∧ p.2.length < 1000000 then setCell p.1 (p.2 ++ [y]) .none else no
def isCell (d : D) : M Unit := match d with
  | .cell _ => pure ()
  | _ => no
def eApp (f g : BE) : BE := fun env => f env >>= fun a => isCell a >>= fun _ => g env >>= fun y => push a y
def popAt (a i : D) : M D := cellAt a >>= fun p => match i with
  | .int i => if p.2.length ≤ 1000000 then (match ixN p.2.length i with
    | some j => (match p.2[j]? with
      | some y => setCell p.1 (p.2.eraseIdx j) y
      | none => no)
    | none => no) else no
  | _ => no
def ePop (f g : BE) : BE := fun env => f env >>= fun a => isCell a >>= fun _ => g env >>= fun i => popAt a i
theorem cellAt_ok {K : PySem.W.Frag} {mg : Str → Option Value} {α β : Type} {R : List Addr → Hp → β → α → Prop} {a : D} {x : V} {S : Store} {O : Ow} {H : Hp} {f : Nat × List D → M α} {Q : β → Hp → Prop} {Ex : XK} (so : SOk K mg T O H S) (r : Rp K mg O.cs (hide O H) x a) (h : Po K mg T R ((cellAt a >>= f) S) O H Q Ex) :
    ∃ n p ds vs, x = .ref p ∧ O.cs[n]? = some p ∧ S[n]? = some (.lst ds) ∧ H p = some (.lst vs) ∧ Rps K mg [] (hide O H) vs ds ∧ Po K mg T R (f (n, ds) S) O H Q Ex := by
  rw [bd_ap] at h
  cases r with
  | cell hO =>
    rename_i p n
    unfold cellAt at h
    dsimp only at h
    cases e : S[n]? with
    | none => rw [e] at h; exact h.elim
    | some c =>
      cases c with
      | lst ds =>
        rw [e] at h
        obtain ⟨vs, h1, h2⟩ := so.cell n p _ hO e
        exact ⟨n, p, ds, vs, rfl, hO, e, h1, h2, h⟩
  | _ => exact h.elim
theorem rp_fix {K : PySem.W.Frag} {mg : Str → Option Value} {O : List Addr} {G : Hp} {v : V} {d : D} (r : Rp K mg [] G v d) : Rp K mg O G v d := Rp.mono (O := []) (O' := O) ⟨O, rfl⟩ (Same.refl _) r
theorem po_set {K : PySem.W.Frag} {mg : Str → Option Value} {S : Store} {O : Ow} {H : Hp} {n : Nat} {p : Addr} {us : List V} {ds : List D} {d : D} {v : V} {Q : VK} {Ex : XK} (so : SOk K mg T O H S) (hO : O.cs[n]? = some p) (t : Rps K mg [] (hide O H) us ds) (r : Rp K mg O.cs (hide O H) v d)
    (q : Po K mg T (Rp K mg) (setCell n ds d S) O H Q Ex) : Q v (upd H p (.lst us)) :=
  have l : Le O H O (upd H p (.lst us)) := Le.put (List.mem_of_getElem? hO) (so.own_ne hO)
  q O _ v l (so.put hO t) (r.le l)
theorem de_append {o e : Expr} {f g : BE} {apos cpos : Pos} (ho : DE X T E o f) (he : DE X T E e g) (hbase : attributeBase o "append" X.env (eval o X.env) = eval o X.env := by rfl)
    (hfew : ((backTo cpos (starEach [e] X.env)).all (fun x => !x.1) && (backToKw cpos (keywordEach [] X.env)).all (fun x => x.1.isSome) && decide ([e].length + ([] : List Keyword).length + (if ([] : List Keyword).isEmpty then 0 else 1) < 30)) = true := by rfl)
    (hline : (apos.endLine == cpos.line) = true := by rfl) (hs : starEach [e] X.env = (false, eval e X.env) :: starEach [] X.env := by rfl) (hplain : (backTo cpos (starEach [] X.env)).any (·.1) = false := by rfl) :
    DE X T E (.Call (.Attribute o "append" apos) [e] [] cpos) (eApp f g) :=
  ⟨(pe_bm PySem.F.plainAttrs_list PySem.F.slot_list_append PySem.F.type_list_append mt_append ho.pe (da_cons he da_nil hs).pa hbase hfew hline hs hplain).monoZ fun σ H Q ⟨env, S, O, re, so, q⟩ => ⟨env, S, O, re, so, by
    have q : Po X.K X.mg T (Rp X.K X.mg) ((f env >>= fun a => isCell a >>= fun _ => g env >>= fun y => push a y) S) O H Q (E σ) := q
    refine Po.bind q fun a S1 O1 H1 x l s1 r1 q1 => ?_
    cases r1 with
    | cell hO =>
      rename_i p n
      obtain ⟨vs, h⟩ := s1.at hO
      refine ⟨.inl ⟨rfl, vs, .inl (.inl h)⟩, env, S1, O1, re.mono l, s1, ?_⟩
      have q1 : Po X.K X.mg T (Rp X.K X.mg) ((g env >>= fun y => push (.cell n) y) S1) O1 H1 Q (E σ) := q1
      show Po X.K X.mg T (Rps X.K X.mg) ((g env >>= fun y => aNil env >>= fun ys => pure (y :: ys)) S1) O1 H1 _ _
      rw [bd_ap] at q1 ⊢
      cases eg : g env S1 with
      | no => rw [eg] at q1; exact q1
      | err z S2 => rw [eg] at q1; exact q1
      | ok y S2 =>
        rw [eg] at q1
        intro O2 H2 xs l2 s2 r2
        cases r2 with
        | cons ry rn =>
          cases rn
          have q1 : Po X.K X.mg T (Rp X.K X.mg) (push (.cell n) y S2) O1 H1 Q (E σ) := q1
          obtain ⟨n', p', ds, vs', e1, hO2, e2, h2, t2, q2⟩ := cellAt_ok s2 ((Rp.cell hO).le l2) (Po.le q1 l2)
          cases e1
          split at q2
          · rename_i hc
            refine ⟨p, vs', _, rfl, rfl, h2, by rw [t2.length]; exact Nat.lt_of_lt_of_le hc.2 (by decide), ?_⟩
            exact po_set s2 hO2 (t2.app (.cons (ry.fix hc.1) .nil)) .non q2
          · exact q2.elim
    | _ => exact q1.elim⟩⟩
theorem de_popAt {o e : Expr} {f g : BE} {apos cpos : Pos} (ho : DE X T E o f) (he : DE X T E e g) (hbase : attributeBase o "pop" X.env (eval o X.env) = eval o X.env := by rfl)
    (hfew : ((backTo cpos (starEach [e] X.env)).all (fun x => !x.1) && (backToKw cpos (keywordEach [] X.env)).all (fun x => x.1.isSome) && decide ([e].length + ([] : List Keyword).length + (if ([] : List Keyword).isEmpty then 0 else 1) < 30)) = true := by rfl)
    (hline : (apos.endLine == cpos.line) = true := by rfl) (hs : starEach [e] X.env = (false, eval e X.env) :: starEach [] X.env := by rfl) (hplain : (backTo cpos (starEach [] X.env)).any (·.1) = false := by rfl) :
    DE X T E (.Call (.Attribute o "pop" apos) [e] [] cpos) (ePop f g) :=
  ⟨(pe_bm PySem.F.plainAttrs_list PySem.F.slot_list_pop PySem.F.type_list_pop mt_popAt ho.pe (da_cons he da_nil hs).pa hbase hfew hline hs hplain).monoZ fun σ H Q ⟨env, S, O, re, so, q⟩ => ⟨env, S, O, re, so, by
    have q : Po X.K X.mg T (Rp X.K X.mg) ((f env >>= fun a => isCell a >>= fun _ => g env >>= fun y => popAt a y) S) O H Q (E σ) := q
    refine Po.bind q fun a S1 O1 H1 x l s1 r1 q1 => ?_
    cases r1 with
    | cell hO =>
      rename_i p n
      obtain ⟨vs, h⟩ := s1.at hO
      refine ⟨.inl ⟨rfl, vs, .inl (.inl h)⟩, env, S1, O1, re.mono l, s1, ?_⟩
      have q1 : Po X.K X.mg T (Rp X.K X.mg) ((g env >>= fun y => popAt (.cell n) y) S1) O1 H1 Q (E σ) := q1
      show Po X.K X.mg T (Rps X.K X.mg) ((g env >>= fun y => aNil env >>= fun ys => pure (y :: ys)) S1) O1 H1 _ _
      rw [bd_ap] at q1 ⊢
      cases eg : g env S1 with
      | no => rw [eg] at q1; exact q1
      | err z S2 => rw [eg] at q1; exact q1
      | ok y S2 =>
        rw [eg] at q1
        intro O2 H2 xs l2 s2 r2
        cases r2 with
        | cons ry rn =>
          cases rn
          have q1 : Po X.K X.mg T (Rp X.K X.mg) (popAt (.cell n) y S2) O1 H1 Q (E σ) := q1
          obtain ⟨n', p', ds, vs', e1, hO2, e2, h2, t2, q2⟩ := cellAt_ok s2 ((Rp.cell hO).le l2) (Po.le q1 l2)
          cases e1
          dsimp only at q2
          cases ry with
          | int i =>
            dsimp only at q2
            by_cases hz : ds.length ≤ 1000000
            · rw [if_pos hz] at q2
              cases hj : ixN ds.length i with
              | none => rw [hj] at q2; exact q2.elim
              | some j =>
                rw [hj] at q2
                dsimp only at q2
                cases hd : ds[j]? with
                | none => rw [hd] at q2; exact q2.elim
                | some d =>
                  rw [hd] at q2
                  obtain ⟨v, hv, rv⟩ := t2.get hd
                  obtain ⟨g1, g2, g3, g4⟩ := ixN_seq hj
                  refine ⟨p, vs', i, j, v, rfl, rfl, h2, by omega, by omega, by rw [t2.length]; exact g1, hv, ?_⟩
                  exact po_set s2 hO2 (t2.erase j) (rp_fix rv) q2
            · rw [if_neg hz] at q2
              exact q2.elim
          | _ => exact q2.elim
    | _ => exact q1.elim⟩⟩
end
end Z
end
section
set_option maxHeartbeats 4000000
/-! While an exception is handled: the ends of iterators, zip of two lists, a comprehension over it. -/
namespace Z
open PySem PySem.Spec PyProof.Rows L2

section
variable {prog : Program} {w : World} {A : Around} {E : Value → Shared → Prop} {s : Shared} {x1 : Addr}
/-- a StopIteration is made and raised -/
theorem stop_hot {α : Type} {Q : α → Shared → Prop} (hot : HotX.HotAt A x1 s.heap)
    (hE : ∀ h' e, (∀ b o, s.heap.get? b = some o → h'.get? b = some o) → (∃ o, h'.get? e = some o ∧ o.cls = .type "StopIteration") → E (.ref e) { s with heap := h' }) :
    wpAny (model prog w) A (newExc (.type "StopIteration") []) (fun e s' => wpAny (model prog w) A (raiseNew e : Sem α) Q E s') E s := by
  obtain ⟨hh, o1, vs1, h1, d1, c1⟩ := hot
  simp only [newExc, newTuple]
  refine wpAny_bind (wpAny_newObj_type ?_ (by size_fits))
  refine wpAny_bind (m := firstArgMember _ _) (wpAny_of_eq (a := Value.none) (by first | rfl | (simp only [firstArgMember]; rfl)) ?_)
  refine wpAny_newObj_type ?_ (by size_fits)
  have k1 : ∀ (u1 u2 : Obj) (b : Addr) (o : Obj), s.heap.get? b = some o → ((s.heap.push u1).push u2).get? b = some o := fun u1 u2 b o e => Heap.get?_push_of_some _ (Heap.get?_push_of_some _ e)
  refine HotX.raiseNew_hot ⟨hh, o1, vs1, k1 _ _ _ _ h1, d1, c1⟩ (Nat.ne_of_lt (Heap.lt_size (Heap.get?_push_of_some _ h1))) (Heap.get?_push_size _ rfl) rfl (by first | (simp; done) | (simp; omega) | (simp only [Array.size_append]; simp; omega)) ?_
  refine hE _ _ (fun b o e => ?_) ⟨_, Heap.get?_update_self _ (Heap.get?_push_size _ rfl) rfl, rfl⟩
  rw [Heap.get?_update_other _ _ (Nat.ne_of_gt (Heap.lt_size (Heap.get?_push_of_some _ e)))]
  exact k1 _ _ b o e
theorem HotAt.keep {h h' : Heap} (hot : HotX.HotAt A x1 h) (k : ∀ o, h.get? x1 = some o → h'.get? x1 = some o) : HotX.HotAt A x1 h' := by
  obtain ⟨hh, o1, vs1, h1, d1, c1⟩ := hot
  exact ⟨hh, o1, vs1, k _ h1, d1, c1⟩
/-- a tuple's iterator ends -/
theorem tup_end_hot {it t : Addr} {i : Nat} {items : Array Value} {Q : Option Value → Shared → Prop} (hot : HotX.HotAt A x1 s.heap) (hit : IsTupIter s.heap it t i) (ht : IsTup s.heap t items) (hx : items[i]? = none) (hne : x1 ≠ it)
    (hQ : ∀ h', (∀ b o, b ≠ it → s.heap.get? b = some o → h'.get? b = some o) → Q none { s with heap := h' }) : wpAny (model prog w) A (pyNext (.ref it)) Q E s := by
  obtain ⟨o, ho, hc, hd⟩ := id hit
  obtain ⟨ol, hol, _, nl, hdl⟩ := ht
  unfold pyNext
  refine wpAny_bind (wpAny_attempt (wpAny_callSpecial?_slot (name := Str.ofString "__next__") hit.typeIs slot_tupleiter_next (wpAny_call_entry slot_tupleiter_next hit.typeIs entry_tupleiter_next ?_ (args_tupleiter_next _))))
  show wpAny _ _ (field (.ref it) 0 >>= _) _ _ s
  refine wpAny_bind (wpAny_field ho hd (x := .ref t) rfl ?_)
  show wpAny _ _ (if (Value.ref t == Value.none) = true then _ else _) _ _ s
  rw [if_neg (show ¬ ((Value.ref t == Value.none) = true) from Bool.false_ne_true)]
  show wpAny _ _ (field (.ref it) 1 >>= _) _ _ s
  refine wpAny_bind (wpAny_field ho hd (x := .int i 0) rfl ?_)
  show wpAny _ _ (seqItems? (.ref t) >>= _) _ _ s
  refine wpAny_bind (wpAny_seqItems hol hdl ?_)
  simp only [Int.toNat_natCast, hx]
  refine wpAny_bind (wpAny_rule (wpAny_bind (wpAny_setField ho hd (by simp) ?_)))
  have k0 : ∀ b u, b ≠ it → s.heap.get? b = some u → (s.heap.update it (Obj.mapFields (·.setIfInBounds 0 .none))).get? b = some u := fun b u hb e => by
    rw [Heap.get?_update_other _ _ (Ne.symm hb)]
    exact e
  refine wpAny_bind (stop_hot (s := { s with heap := s.heap.update it (Obj.mapFields (·.setIfInBounds 0 .none)) }) (HotAt.keep hot fun o e => k0 _ _ hne e) fun h' e hk he => ?_)
  refine wpAny_bind (wpAny_isInstance (T := "StopIteration") (b := true) he isSubtype_stop ?_)
  exact wpAny_pure (hQ _ fun b u hb q => hk _ _ (k0 _ _ hb q))
/-- a list's iterator ends, within another iterator's __next__ -/
theorem list_end_hot {it l : Addr} {i : Nat} {items : Array Value} {Q : Value → Shared → Prop} (hot : HotX.HotAt A x1 s.heap) (hit : s.heap.IsListIter it l i) (hl : s.heap.IsList l items) (hx : items[i]? = none) (hne : x1 ≠ it)
    (hE : ∀ h' e, (∀ b o, b ≠ it → s.heap.get? b = some o → h'.get? b = some o) → (∃ o, h'.get? e = some o ∧ o.cls = .type "StopIteration") → E (.ref e) { s with heap := h' }) :
    wpAny (model prog w) A (Builtin.SmallTypes.nextOf (.ref it)) Q E s := by
  obtain ⟨o, ho, hc, hd⟩ := id hit
  obtain ⟨ol, hol, _, nl, hdl⟩ := hl
  unfold Builtin.SmallTypes.nextOf
  refine wpAny_bind (wpAny_callSpecial?_slot (name := Str.ofString "__next__") hit.typeIs slot_listiter_next (wpAny_call_entry slot_listiter_next hit.typeIs entry_listiter_next ?_ (args_listiter_next _)))
  show wpAny _ _ (field (.ref it) 0 >>= _) _ _ s
  refine wpAny_bind (wpAny_field ho hd (x := .ref l) rfl ?_)
  show wpAny _ _ (if (Value.ref l == Value.none) = true then _ else _) _ _ s
  rw [if_neg (show ¬ ((Value.ref l == Value.none) = true) from Bool.false_ne_true)]
  show wpAny _ _ (field (.ref it) 1 >>= _) _ _ s
  refine wpAny_bind (wpAny_field ho hd (x := .int i 0) rfl ?_)
  show wpAny _ _ (seqItems? (.ref l) >>= _) _ _ s
  refine wpAny_bind (wpAny_seqItems hol hdl ?_)
  simp only [Int.toNat_natCast, hx]
  refine wpAny_bind (wpAny_rule (wpAny_bind (wpAny_setField ho hd (by simp) ?_)))
  have k0 : ∀ b u, b ≠ it → s.heap.get? b = some u → (s.heap.update it (Obj.mapFields (·.setIfInBounds 0 .none))).get? b = some u := fun b u hb e => by
    rw [Heap.get?_update_other _ _ (Ne.symm hb)]
    exact e
  exact wpAny_bind (stop_hot (s := { s with heap := s.heap.update it (Obj.mapFields (·.setIfInBounds 0 .none)) }) (HotAt.keep hot fun o e => k0 _ _ hne e) fun h' e hk he => hE h' e (fun b u hb q => hk _ _ (k0 _ _ hb q)) he)
/-- zip of two lists ends, the former one first -/
theorem zip_end_hot {z TI TO i1 i2 l1 l2 : Addr} {k1 : Nat} {xs : Array Value} {Q : Option Value → Shared → Prop} (hot : HotX.HotAt A x1 s.heap) (D : ZipApart z TI TO i1 i2 l1 l2)
    (hz : IsZip s.heap z TI TO .none) (hTI : IsPair s.heap TI (.ref i1) (.ref i2)) (h1 : s.heap.IsListIter i1 l1 k1) (hl1 : s.heap.IsList l1 xs) (hend : xs[k1]? = none) (n1 : x1 ≠ z) (n2 : x1 ≠ i1)
    (hQ : ∀ h', (∀ c o, c ≠ z → c ≠ i1 → s.heap.get? c = some o → h'.get? c = some o) → Q none { s with heap := h' }) : wpAny (model prog w) A (pyNext (.ref z)) Q E s := by
  have hT : s.TypeIs (.ref z) "zip" := ⟨_, hz, rfl⟩
  unfold pyNext
  refine wpAny_bind (wpAny_attempt (wpAny_callSpecial?_slot (name := Str.ofString "__next__") hT F.slot_zip_next (wpAny_call_entry F.slot_zip_next hT F.entry_zip_next ?_ (F.args_zip_next_1 _))))
  show wpAny _ _ (field (.ref z) 2 >>= _) _ _ _
  refine wpAny_bind (wpAny_field hz rfl (x := .bool false) rfl ?_)
  show wpAny _ _ (field (.ref z) 3 >>= _) _ _ _
  refine wpAny_bind (wpAny_field hz rfl (x := .ref TI) rfl ?_)
  refine wpAny_bind (wpAny_seqItems hTI rfl ?_)
  show wpAny _ _ (Builtin.SmallTypes.ownedTupleIsFree (.ref z) >>= _) _ _ _
  refine wpAny_bind ?_
  unfold Builtin.SmallTypes.ownedTupleIsFree
  refine wpAny_bind (wpAny_field hz rfl (x := .none) rfl (wpAny_pure ?_))
  simp only [if_true]
  refine wpAny_bind (wpAny_rule ?_)
  refine wpAny_bind (wpAny_field hz rfl (x := .ref TO) rfl ?_)
  refine wpAny_bind (wpAny_setField_rec hz (by simp) fun h₁ hz₁ hs₁ => ?_)
  replace hz₁ : IsZip h₁ z TI TO .ellipsis := hz₁
  refine wpAny_bind ?_
  simp only [List.zipIdx_cons, List.zipIdx_nil, List.forIn_cons, List.forIn_nil]
  refine wpAny_bind (wpAny_bind (wpAny_onRaise ?_))
  show wpAny _ _ (Builtin.SmallTypes.nextOf (.ref i1) >>= _) _ _ _
  refine wpAny_bind (list_end_hot (HotAt.keep hot fun o e => (hs₁.2 _ n1).trans e) (h1.extBut hs₁.extBut D.i1z) (hl1.extBut hs₁.extBut D.l1z) hend n2 fun h₂ e hs₂ he => ?_)
  obtain ⟨oe, hoe, hce⟩ := he
  have hz₂ : IsZip h₂ z TI TO .ellipsis := hs₂ _ _ D.i1z.symm hz₁
  have hez : e ≠ z := fun x => by subst x; rw [hz₂] at hoe; cases hoe; simp at hce
  refine wpAny_setField_rec hz₂ (by simp) fun h₃ _ hs₃ => ?_
  refine wpAny_bind (wpAny_isInstance (T := "StopIteration") (b := true) ⟨oe, hs₃.extBut _ _ hez hoe, hce⟩ isSubtype_stop ?_)
  exact wpAny_pure (hQ _ fun c o c1 c3 q => hs₃.extBut _ _ c1 (hs₂ _ _ c3 (hs₁.extBut _ _ c1 q)))
end
end Z
end
section
set_option maxHeartbeats 4000000
namespace Z
open PySem PySem.Spec PyProof.Rows L2
section
variable {prog : Program} {w : World} {A : Around} {E : Value → Shared → Prop} {s : Shared} {x1 : Addr}
theorem unpack_hot {t : Addr} {items : Array Value} {targets : List (Bool × (Value → Sem Unit))} {Q : Unit → Shared → Prop} (hot : HotX.HotAt A x1 s.heap) (ht : IsTup s.heap t items) (hn : targets.length = items.size) (hstar : targets.findIdx? (·.1) = none)
    (h : ∀ h', (∀ b o, s.heap.get? b = some o → h'.get? b = some o) → wpAny (model prog w) A (assignInOrder (targets.map (·.2)) items.toList) Q E { s with heap := h' }) : wpAny (model prog w) A (unpack (.ref t) targets) Q E s := by
  have lt0 : ∀ {b : Addr} {o : Obj}, s.heap.get? b = some o → b ≠ s.heap.objs.size := fun e => Nat.ne_of_lt (Heap.lt_size e)
  have hlt : t ≠ s.heap.objs.size := by
    obtain ⟨o, ho, _⟩ := ht
    exact lt0 ho
  have hxl : x1 ≠ s.heap.objs.size := by
    obtain ⟨_, o1, _, h1, _⟩ := hot
    exact lt0 h1
  unfold unpack
  rw [hn, hstar]
  refine wpAny_bind (wpAny_holding ?_)
  unfold unpackItems
  refine wpAny_bind ?_
  unfold notIterableAtAll
  refine wpAny_bind (wpAny_specialOf ht.typeIs slot_tuple_iter.lookup ?_)
  refine wpAny_pure ?_
  simp only [Bool.false_eq_true, if_false]
  refine wpAny_bind (wpAny_holding (iter_tuple ht ?_))
  refine wpAny_bind (wpAny_holding (draw_tuple hlt items.size 0 _ _ ⟨_, Heap.get?_push_size _ rfl, rfl, rfl⟩ (ht.push _) (by omega) fun h₁ hit₁ hs₁ => ?_))
  have hall : List.take items.size (List.drop 0 items.toList) = items.toList := by
    rw [List.drop_zero]
    exact List.take_of_length_le (by simp)
  rw [hall, if_neg (by simp)]
  have k1 : ∀ b o, s.heap.get? b = some o → h₁.get? b = some o := fun b o e => hs₁.extBut b o (lt0 e) (Heap.get?_push_of_some _ e)
  have ht₁ : IsTup h₁ t items := (ht.push _).extBut hs₁.extBut hlt
  refine wpAny_bind (wpAny_holding (tup_end_hot (s := { s with heap := h₁ }) (HotAt.keep hot fun o e => k1 _ _ e) hit₁ ht₁ (by simp) hxl fun h₂ he₂ => ?_))
  simp only [Option.isSome_none, Bool.false_eq_true, if_false]
  exact wpAny_pure (h h₂ fun b o e => he₂ b o (lt0 e) (k1 b o e))
end
/-- the exception that is handled stands since the context's entry -/
def HotS (X : Cx) : Prop := ∃ (x1 : Addr) (o : Obj) (vs : Array Value), X.A.handled = some (.ref x1) ∧ X.s_0.heap.get? x1 = some o ∧ o.data = .fields vs ∧ vs[2]? = some .none ∧ X.H_0 x1 = none ∧ x1 ∉ X.fs ∧ x1 ∉ X.ex
theorem HotS.at {X : Cx} {pins : List (Addr × Obj)} {σ : L2.St} {H : Hp} {s : Shared} (h : HotS X) (I : Inv X pins σ H s) : ∃ x1, HotX.HotAt X.A x1 s.heap ∧ x1 ∉ X.ex := by
  obtain ⟨x1, o, vs, h1, h2, h3, h4, h5, h6, h7⟩ := h
  exact ⟨x1, ⟨h1, o, vs, I.base.keep x1 o h2 h5 h6 h7, h3, h4⟩, h7⟩
theorem pg_tup_hot {X : Cx} {es : List Expr} {k : Nat} {t : TGs} {n : Nat} {pos : Pos} (hh : HotS X) (h : PGs X es t) (hn : (assignEach es X.env).length = n := by rfl) (hst : (assignEach es X.env).findIdx? (·.1) = none := by rfl) : PG X (.Tuple es k pos) (gTup X.K n t) :=
  ⟨fun pins s σ H v u Q I r hw => by
    obtain ⟨a, xs, rfl, hq, hl, hw⟩ := hw
    cases r
    obtain ⟨its, rv, ht, hz⟩ := I.tuple hq
    obtain ⟨x1, hot, _⟩ := hh.at I
    rw [PyProof.Rows.assign_Tuple]
    refine wpAny_bind (wpAny_standAt (unpack_hot hot ht (by simp [hn, ← hl, rv.length]) hst fun h' hx => ?_))
    exact h.run pins _ σ H xs _ Q (I.kept (t' := s.toks) hx) (by simpa using rv) hw⟩
/-- where a def's body or a suite runs while an exception is handled -/
theorem hot_blk {X : Cx} {pins : List (Addr × Obj)} {σ : L2.St} {H : Hp} {s : Shared} (hc : L2H.HotC X) (I : Inv X pins σ H s) (scope : Scope) (env : Env) (fp : List Addr) (hf : ∀ b ∈ fp, FpOk X pins H b) : HotS (X.blk s H scope env fp) := by
  obtain ⟨p, ⟨h1, vs, h2, h3⟩, hp⟩ := hc
  obtain ⟨p1, p2, p3, p4, _⟩ := I.pin p (List.mem_append_left _ hp)
  refine ⟨p.1, p.2, vs, h1, p1, h2, h3, p2, fun z => ?_, fun z => ?_⟩
  · exact (List.mem_cons.mp (I.stkSub p.1 z)).elim p3 p4
  · obtain ⟨_, _, _, _, _, f5⟩ := hf p.1 z
    exact f5 p (List.mem_append_left _ hp) rfl
/-- [w for w, g in zip(a, b) if g]: the words whose truths are true -/
def pickD : List D → List Bool → List D
  | d :: ds, b :: bs => if b = true then d :: pickD ds bs else pickD ds bs
  | _, _ => []
section
variable {X : Cx} {e1 e2 : Expr} {f1 f2 : TE} {wn gn : Str} {i j : Nat} {scope : Scope} {p1 p2 p3 p4 p5 pos zp cp tp : Pos} {kk : Nat}
/-- what is asked of the two lists -/
def pickQ (Q : VK) : V → V → Hp → Prop := fun x y H2 => ∃ (a b : Addr) (ws : List V) (bs : List Bool), x = .ref a ∧ y = .ref b ∧ H2 a = some (.lst ws) ∧ H2 b = some (.lst (bs.map V.bl)) ∧ ws.length = bs.length ∧ ws.length ≤ 1000 ∧
  ∀ H' l, Same H2 H' → H2 l = none → H' l = some (.lst (((ws.zip bs).filter (·.2)).map (·.1))) → Q (.ref l) H'
def pickQs (Q : VK) : List V → Hp → Prop
  | [x, y], H => pickQ Q x y H
  | _, _ => False
/-- the new list holds the picked ones -/
def tPick (f1 f2 : TE) : TE := fun σ H Q => f1 σ H fun x H1 => f2 σ H1 fun y H2 => pickQ Q x y H2
theorem pick_take {ws : List V} {bs : List Bool} {n : Nat} {v : V} {b : Bool} (hv : ws[n]? = some v) (hb : bs[n]? = some b) :
    (((ws.zip bs).take (n + 1)).filter (·.2)).map (·.1) = (((ws.zip bs).take n).filter (·.2)).map (·.1) ++ if b = true then [v] else [] := by
  have hz : (ws.zip bs)[n]? = some (v, b) := by
    rw [List.getElem?_zip_eq_some]
    exact ⟨hv, hb⟩
  rw [List.take_add_one, hz]
  cases b <;> simp
theorem pick_run {pins : List (Addr × Obj)} {σ : L2.St} {H : Hp} {s : Shared} {Q : VK} {e : Expr} {a b z TI TO i1 i2 : Addr} {ws : List V} {bs : List Bool} (hc : L2H.HotC X) (hN : X.N.Nodup) (ok : BlkOk X.N X.env.scope scope [(wn, i), (gn, j)]) (hij : i ≠ j) (iw : X.N[i]? = some wn) (ig : X.N[j]? = some gn) (lw : scope.names.lookup wn = some .local) (lg : scope.names.lookup gn = some .local)
    (hd1 : (wn == ("__debug__" : Str)) = false) (hd2 : (gn == ("__debug__" : Str)) = false) (hd3 : (wn == ("__classdict__" : Str)) = false) (hd4 : (gn == ("__classdict__" : Str)) = false)
    (I : Inv X pins σ H s) (hf : ∀ c ∈ [z, TI, TO, i1, i2], FpOk X pins H c) (AP : ZipApart z TI TO i1 i2 a b)
    (st : IsZip s.heap z TI TO .none ∧ IsPair s.heap TI (.ref i1) (.ref i2) ∧ (∃ x y, IsPair s.heap TO x y) ∧ s.heap.IsListIter i1 a 0 ∧ s.heap.IsListIter i2 b 0) (ha : H a = some (.lst ws)) (hb : H b = some (.lst (bs.map V.bl))) (hlen : ws.length = bs.length) (hsm : ws.length ≤ 1000)
    (q : ∀ H' l, Same H H' → H l = none → H' l = some (.lst (((ws.zip bs).filter (·.2)).map (·.1))) → Q (.ref l) H') :
    wpAny (model X.prog X.w) X.A (newList []) (fun acc s₃ => wpAny (model X.prog X.w) X.A (newFunctionEnv scope X.env.globals (cloFrom X.env.cells scope.names []) [] X.env.qual none .none (some X.env)) (fun cenv s₄ =>
      codeAny (model X.prog X.w) X.A (.compStart (.ListComp (.Name wn p1) [⟨.Tuple [.Name wn p2, .Name gn p3] kk tp, e, [.Name gn p4], 0⟩] scope pos) 0 (.ref z) acc { cenv with scope := relabel scope X.env }) (compPost (model X.prog X.w) X.A X.xe none (EP X pins σ Q) acc cenv.locals) s₄) X.xe s₃) X.xe s := by
  refine wpAny_newObj_type (newEnv_comp ?_) (by show 0 ≤ sizeLine; decide)
  generalize hD : s.heap.objs.size = D
  have hDn : H D = none := I.hok.fresh (Nat.le_of_eq hD)
  generalize hs3 : ({ s with heap := s.heap.push { cls := .type "list", data := .seq ([] : List Value).toArray } } : Shared) = s3
  have h3 : s3.heap = s.heap.push { cls := .type "list", data := .seq ([] : List Value).toArray } := by rw [← hs3]
  have I3 : Inv X pins σ (upd H D (.lst [])) s3 := by
    rw [← hs3]
    refine I.laid (t' := s.toks) (fun b o e => Heap.get?_push_of_some _ e) (Nat.le_of_eq hD) ⟨Nat.zero_le _, [], 0, .nil, ?_⟩
    rw [← hD]
    exact Heap.get?_push_size _ rfl
  have inFp : ∀ c, c ∈ [z, TI, TO, i1, i2] → ∃ o, s.heap.get? c = some o ∧ ∀ v, o.data ≠ .cell v := fun c hcm => by
    obtain ⟨hz, hTI, ⟨x, y, hTO⟩, ⟨o1, e1, _, d1⟩, ⟨o2, e2, _, d2⟩⟩ := st
    simp only [List.mem_cons, List.not_mem_nil, or_false] at hcm
    rcases hcm with r | r | r | r | r
    · rw [r]; exact ⟨_, hz, fun v q => nomatch q⟩
    · rw [r]; exact ⟨_, hTI, fun v q => nomatch q⟩
    · rw [r]; exact ⟨_, hTO, fun v q => nomatch q⟩
    · rw [r]; exact ⟨o1, e1, fun v q => by rw [d1] at q; cases q⟩
    · rw [r]; exact ⟨o2, e2, fun v q => by rw [d2] at q; cases q⟩
  have f3 : ∀ c ∈ [z, TI, TO, i1, i2], FpOk X pins (upd H D (.lst [])) c ∧ c < s3.heap.objs.size := fun c hcm => by
    obtain ⟨o, e, _⟩ := inFp c hcm
    have hlt : c < D := by rw [← hD]; exact Heap.lt_size e
    refine ⟨⟨?_, (hf c hcm).2⟩, by rw [h3, Heap.size_push, hD]; exact Nat.lt_succ_of_lt hlt⟩
    rw [upd_ne (Nat.ne_of_lt hlt)]
    exact (hf c hcm).1
  have I4 := block_start I3 ok hN f3
  have hot := hot_blk hc I3 scope (compEnvC scope (cellsFrom (s3.heap.objs.size + 1) scope.names (cloFrom X.env.cells scope.names [])) s3.heap.objs.size X.env) [z, TI, TO, i1, i2] fun c hcm => (f3 c hcm).1
  show codeAny _ _ (.compStart _ 0 (.ref z) (.ref D) (compEnvC scope (cellsFrom (s3.heap.objs.size + 1) scope.names (cloFrom X.env.cells scope.names [])) s3.heap.objs.size X.env)) (compPost (model X.prog X.w) X.A X.xe none (EP X pins σ Q) (.ref D) s3.heap.objs.size) { s3 with heap := pushCells (s3.heap.push { cls := .type "dict", data := .dict #[] }) scope.names }
  have scE : (compEnvC scope (cellsFrom (s3.heap.objs.size + 1) scope.names (cloFrom X.env.cells scope.names [])) s3.heap.objs.size X.env).scope = relS scope X.env.scope := rfl
  generalize hce : compEnvC scope (cellsFrom (s3.heap.objs.size + 1) scope.names (cloFrom X.env.cells scope.names [])) s3.heap.objs.size X.env = ce at I4 hot scE ⊢
  have cL : ce.locals = s3.heap.objs.size := by subst hce; rfl
  have vw : ce.scope.names.lookup wn = some .local := by rw [scE]; exact lookup_relS_keep (by decide) lw
  have vg : ce.scope.names.lookup gn = some .local := by rw [scE]; exact lookup_relS_keep (by decide) lg
  have up3 : ∀ b o, s.heap.get? b = some o → s3.heap.get? b = some o := fun b o e => by rw [h3]; exact Heap.get?_push_of_some _ e
  generalize hs4 : ({ s3 with heap := pushCells (s3.heap.push { cls := .type "dict", data := .dict #[] }) scope.names } : Shared) = s4 at I4 ⊢
  have up4 : ∀ b o, s.heap.get? b = some o → s4.heap.get? b = some o := fun b o e => by rw [← hs4]; exact pushCells_keeps _ _ _ _ (Heap.get?_push_of_some _ (up3 b o e))
  let Z' : Nat → Heap → Prop := fun n h => IsZip h z TI TO .none ∧ IsPair h TI (.ref i1) (.ref i2) ∧ (∃ x y, IsPair h TO x y) ∧ h.IsListIter i1 a n ∧ h.IsListIter i2 b n
  have keepZ : ∀ {n : Nat} {h h' : Heap}, Z' n h → (∀ c ∈ [z, TI, TO, i1, i2], ∀ o, h.get? c = some o → h'.get? c = some o) → Z' n h' := fun {n h h'} ⟨a1, a2, ⟨x, y, a3⟩, a4, a5⟩ k =>
    ⟨k z (by simp) _ a1, k TI (by simp) _ a2, ⟨x, y, k TO (by simp) _ a3⟩, a4.at fun o q => k i1 (by simp) o q, a5.at fun o q => k i2 (by simp) o q⟩
  have st4 : Z' 0 s4.heap := keepZ st fun c _ o e => up4 c o e
  generalize hH3 : upd H D (.lst []) = H3 at I3 I4 hot f3
  have haD : H3 a = some (.lst ws) := by rw [← hH3, upd_ne (ne_of_none ha hDn)]; exact ha
  have hbD : H3 b = some (.lst (bs.map V.bl)) := by rw [← hH3, upd_ne (ne_of_none hb hDn)]; exact hb
  have stat : ∀ {σ' : L2.St} {H' : Hp} {s' : Shared}, Inv (X.blk s3 H3 scope ce [z, TI, TO, i1, i2]) [] σ' H' s' → (∀ c ∈ [z, TI, TO, i1, i2], H' c = none) → ∀ c ∈ [z, TI, TO, i1, i2], FpOk (X.blk s3 H3 scope ce [z, TI, TO, i1, i2]) [] H' c := fun {σ' H' s'} I' hn c hcm =>
    ⟨hn c hcm, (I'.ok.exf c hcm).1, I'.ok.exfs c hcm, .inl hcm, fun x u e => (I'.ok.exf c hcm).2 x u e, fun p hp => absurd (show p ∈ ([] : List (Addr × Obj)) ++ [] from hp) (by simp)⟩
  have loop : codeAny (model X.prog X.w) X.A (.compLoop (.ListComp (.Name wn p1) [⟨.Tuple [.Name wn p2, .Name gn p3] kk tp, e, [.Name gn p4], 0⟩] scope pos) 0 (.ref z) (.ref D) ce) (compPost (model X.prog X.w) X.A X.xe none (EP X pins σ Q) (.ref D) s3.heap.objs.size) s4 := by
    refine compLoop_any (fun n s' => ∃ m H', n = ws.length - m ∧ m ≤ ws.length ∧ Inv (X.blk s3 H3 scope ce [z, TI, TO, i1, i2]) [] (L2.wipe σ [i, j]) H' s' ∧ Z' m s'.heap ∧ (∀ c ∈ [z, TI, TO, i1, i2], H' c = none) ∧ (∀ c o, H c = some o → H' c = some o) ∧ H' D = some (.lst ((((ws.zip bs).take m).filter (·.2)).map (·.1))))
      ?_ ws.length ⟨0, H3, by simp, Nat.zero_le _, I4, st4, fun c hcm => (f3 c hcm).1.1, fun c o e => by rw [← hH3, upd_ne (ne_of_none e hDn)]; exact e, by rw [← hH3]; exact upd_same⟩
    rintro n s5 ⟨m, H5, rfl, hm, I5, st5, n5, k5, hD5⟩
    have ha5 := k5 _ _ ha
    have hb5 := k5 _ _ hb
    obtain ⟨its, rv, pl1, _⟩ := I5.list (SqL.of (K := X.K) ha5)
    obtain ⟨its2, rv2, pl2, _⟩ := I5.list (SqL.of (K := X.K) hb5)
    obtain ⟨hz, hTI, ⟨x0, y0, hTO⟩, h1, h2⟩ := id st5
    by_cases hlt : m < ws.length
    · have hx : ws[m]? = some ws[m] := List.getElem?_eq_getElem hlt
      have hy : bs[m]? = some bs[m] := List.getElem?_eq_getElem (by omega)
      obtain ⟨u, hu, ru⟩ := rv.get hx
      obtain ⟨u2, hu2, ru2⟩ := rv2.get (show (bs.map V.bl)[m]? = some (.bl bs[m]) by rw [List.getElem?_map, hy]; rfl)
      refine wpAny_pyNext_zip_item AP hz hTI hTO h1 h2 pl1.isList pl2.isList (x := u) (y := u2) (by simpa using hu) (by simpa using hu2) fun h' z' TO' h1' h2' hT hsz hk => ?_
      refine wpAny_letOwnedTupleGo_zip (s := { s5 with heap := h' }) z' fun h'' z'' sb => ?_
      have hzl : z < s5.heap.objs.size := Heap.lt_size hz
      have hT2 : h''.get? s5.heap.objs.size = some { cls := .type "tuple", data := .seq #[u, u2] } := (sb.2 _ (Nat.ne_of_gt hzl)).trans hT
      have I6 : Inv (X.blk s3 H3 scope ce [z, TI, TO, i1, i2]) [] (L2.wipe σ [i, j]) (upd H5 s5.heap.objs.size (.tup [ws[m], .bl bs[m]])) { s5 with heap := h'' } :=
        I5.turnedNew (t' := s5.toks) (ch := [z, TI, TO, i1, i2]) (fun c o hb q => (sb.2 c (fun q' => hb (by simp [q']))).trans (hk c o (fun q' => hb (by simp [q'])) (fun q' => hb (by simp [q'])) (fun q' => hb (by simp [q'])) (fun q' => hb (by simp [q'])) q)) (stat I5 n5) (Nat.le_refl _)
          ⟨by show 2 ≤ sizeLine; decide, [u, u2], .cons ru (.cons ru2 .nil), ⟨_, hT2, rfl, _, rfl⟩⟩
      have newN : H5 s5.heap.objs.size = none := I5.hok.fresh (Nat.le_refl _)
      have st6 : Z' (m + 1) h'' := ⟨z'', (sb.2 _ AP.TIz).trans (hk _ _ AP.TIz AP.TITO AP.TIi1 AP.TIi2 hTI), ⟨u, u2, (sb.2 _ AP.TOz).trans TO'⟩, h1'.at fun o q => (sb.2 _ AP.i1z).trans q, h2'.at fun o q => (sb.2 _ AP.i2z).trans q⟩
      have n6 : ∀ c ∈ [z, TI, TO, i1, i2], (upd H5 s5.heap.objs.size (.tup [ws[m], .bl bs[m]])) c = none := fun c hcm => by
        have hlt : c < s5.heap.objs.size := by
          simp only [List.mem_cons, List.not_mem_nil, or_false] at hcm
          rcases hcm with r | r | r | r | r
          · rw [r]; exact hzl
          · rw [r]; exact Heap.lt_size hTI
          · rw [r]; exact Heap.lt_size hTO
          · rw [r]; obtain ⟨_, e1, _⟩ := h1; exact Heap.lt_size e1
          · rw [r]; obtain ⟨_, e2, _⟩ := h2; exact Heap.lt_size e2
        rw [upd_ne (Nat.ne_of_lt hlt)]
        exact n5 c hcm
      have obj6 : ∀ c ∈ [z, TI, TO, i1, i2], ∃ o, h''.get? c = some o ∧ ∀ v, o.data ≠ .cell v := fun c hcm => by
        obtain ⟨a1, a2, ⟨x, y, a3⟩, ⟨o1, e1, _, d1⟩, ⟨o2, e2, _, d2⟩⟩ := st6
        simp only [List.mem_cons, List.not_mem_nil, or_false] at hcm
        rcases hcm with r | r | r | r | r
        · rw [r]; exact ⟨_, a1, fun v q => nomatch q⟩
        · rw [r]; exact ⟨_, a2, fun v q => nomatch q⟩
        · rw [r]; exact ⟨_, a3, fun v q => nomatch q⟩
        · rw [r]; exact ⟨o1, e1, fun v q => by rw [d1] at q; cases q⟩
        · rw [r]; exact ⟨o2, e2, fun v q => by rw [d2] at q; cases q⟩
      have I6' := I6.pinned (stat I6 n6) obj6
      have pgT : PG (X.blk s3 H3 scope ce [z, TI, TO, i1, i2]) (.Tuple [.Name wn p2, .Name gn p3] kk tp) (gTup X.K 2 (gCons (gName i) (gCons (gName j) gNil))) :=
        pg_tup_hot hot (pgs_cons (pg_name hN iw (.inl vw) (.inr vw)) (pgs_cons (pg_name hN ig (.inl vg) (.inr vg)) pgs_nil))
      refine thnF (pgT.run _ _ _ _ (.ref s5.heap.objs.size) _ (fun σ8 H8 => σ8 = ((L2.wipe σ [i, j]).set i (some ws[m])).set j (some (.bl bs[m])) ∧ H8 = upd H5 s5.heap.objs.size (.tup [ws[m], .bl bs[m]])) I6' rfl ⟨_, _, rfl, .inl (.inl upd_same), rfl, _, _, rfl, _, _, rfl, rfl, rfl, rfl⟩) fun _ s8 ⟨σ8, H8, I8, e8, e8'⟩ => ?_
      subst e8 e8'
      have li : i < (L2.wipe σ [i, j]).length := by rw [wipe_length, I.len]; exact (List.getElem?_eq_some_iff.mp iw).1
      have lj : j < (L2.wipe σ [i, j]).length := by rw [wipe_length, I.len]; exact (List.getElem?_eq_some_iff.mp ig).1
      have gi : (((L2.wipe σ [i, j]).set i (some ws[m])).set j (some (.bl bs[m])))[i]? = some (some ws[m]) := by rw [List.getElem?_set_ne (Ne.symm hij), List.getElem?_set_self li]
      have gj : (((L2.wipe σ [i, j]).set i (some ws[m])).set j (some (.bl bs[m])))[j]? = some (some (.bl bs[m])) := by rw [List.getElem?_set_self (by simpa using lj)]
      have pt : PTs (X.blk s3 H3 scope ce [z, TI, TO, i1, i2]) [.Name gn p4] (tB (tVar j)) := pts_one (pt_val (pe_var ig (.inl vg) hd2 hd4))
      refine thnF (pt.run _ s8 _ _ (fun b9 H9 => b9 = bs[m] ∧ H9 = upd H5 s5.heap.objs.size (.tup [ws[m], .bl bs[m]])) I8 ⟨_, gj, _, rfl, rfl, rfl⟩) fun b9 s9 ⟨H9, I9, e9, e9'⟩ => ?_
      subst e9 e9'
      have fin : ∀ {s' : Shared} {H' : Hp}, Inv (X.blk s3 H3 scope ce [z, TI, TO, i1, i2]) ([] ++ pinsAt [z, TI, TO, i1, i2] h'') (((L2.wipe σ [i, j]).set i (some ws[m])).set j (some (.bl bs[m]))) H' s' → (∀ c o, H c = some o → H' c = some o) → H' D = some (.lst ((((ws.zip bs).take (m + 1)).filter (·.2)).map (·.1))) →
          ∃ n, n < ws.length - m ∧ ∃ m H', n = ws.length - m ∧ m ≤ ws.length ∧ Inv (X.blk s3 H3 scope ce [z, TI, TO, i1, i2]) [] (L2.wipe σ [i, j]) H' s' ∧ Z' m s'.heap ∧ (∀ c ∈ [z, TI, TO, i1, i2], H' c = none) ∧ (∀ c o, H c = some o → H' c = some o) ∧ H' D = some (.lst ((((ws.zip bs).take m).filter (·.2)).map (·.1))) := fun {s' H'} I' k' hD' => by
        have pin' : ∀ c ∈ [z, TI, TO, i1, i2], ∀ o, h''.get? c = some o → s'.heap.get? c = some o ∧ H' c = none := fun c hcm o e =>
          let zz := I'.pin (c, o) (List.mem_append_right _ (List.mem_append_right _ (mem_pinsAt hcm e)))
          ⟨zz.1, zz.2.1⟩
        refine ⟨ws.length - (m + 1), by omega, m + 1, H', rfl, hlt, (I'.unpinned (pins := [])).weak (by simp) (fun n v e => ?_), keepZ st6 fun c hcm o e => (pin' c hcm o e).1, fun c hcm => ?_, k', hD'⟩
        · have hn := (wipe_some e).2
          simp only [List.mem_cons, List.not_mem_nil, or_false, not_or] at hn
          rw [List.getElem?_set_ne (Ne.symm hn.2), List.getElem?_set_ne (Ne.symm hn.1)]
          exact e
        · obtain ⟨o, e, _⟩ := obj6 c hcm
          exact (pin' c hcm o e).2
      have k6 : ∀ c o, H c = some o → (upd H5 s5.heap.objs.size (.tup [ws[m], .bl bs[m]])) c = some o := fun c o e => by
        have := k5 c o e
        rw [upd_ne (ne_of_none this newN)]
        exact this
      have hD6 : (upd H5 s5.heap.objs.size (.tup [ws[m], .bl bs[m]])) D = some (.lst ((((ws.zip bs).take m).filter (·.2)).map (·.1))) := by
        rw [upd_ne (ne_of_none hD5 newN)]
        exact hD5
      have hp := pick_take hx hy
      cases hbm : bs[m] with
      | false =>
        rw [hbm] at I9 hp k6 hD6
        simp only [Bool.false_eq_true, if_false, List.append_nil] at hp ⊢
        rw [← hbm] at I9 k6 hD6
        exact fin I9 k6 (by rw [hp]; exact hD6)
      | true =>
        rw [hbm] at hp
        simp only [if_true] at hp ⊢
        have pe : PE (X.blk s3 H3 scope ce [z, TI, TO, i1, i2]) (.Name wn p1) (tVar i) := pe_var iw (.inl vw) hd1 hd3
        refine thnF (pe.run _ s9 _ _ (fun v H10 => v = ws[m] ∧ H10 = upd H5 s5.heap.objs.size (.tup [ws[m], .bl bs[m]])) I9 ⟨_, gi, rfl, rfl⟩) fun zv s10 ⟨yv, H10, I10, r10, e10, e10'⟩ => ?_
        subst e10 e10'
        have hshort : ((((ws.zip bs).take m).filter (·.2)).map (·.1)).length ≤ ws.length := by
          rw [List.length_map]
          refine Nat.le_trans (List.length_filter_le _ _) ?_
          rw [List.length_take, List.length_zip]
          omega
        refine app_ok (X := X.blk s3 H3 scope ce [z, TI, TO, i1, i2]) I10 hD6 (Nat.lt_of_le_of_lt (Nat.le_trans hshort hsm) (by decide)) r10 fun s11 I11 => fin I11 (fun c o e => ?_) ?_
        · rw [upd_ne (ne_of_none e hDn)]
          exact k6 c o e
        · rw [hp]
          exact upd_same
    · have em : m = ws.length := by omega
      subst em
      obtain ⟨x1, ht, nx⟩ := hot.at I5
      refine zip_end_hot ht AP hz hTI h1 pl1.isList (by have := rv.length; simp; omega) (fun e => nx (by rw [e]; simp [Cx.blk])) (fun e => nx (by rw [e]; simp [Cx.blk])) fun h' hk => ?_
      have I6 : Inv (X.blk s3 H3 scope ce [z, TI, TO, i1, i2]) [] (L2.wipe σ [i, j]) H5 { s5 with heap := h' } :=
        I5.turnedL (t' := s5.toks) (ch := [z, TI, TO, i1, i2]) (fun c o hb q => hk c o (fun q' => hb (by simp [q'])) (fun q' => hb (by simp [q'])) q) (stat I5 n5)
      have I7 : Inv X pins σ H5 { s5 with heap := h' } := I3.call' (ch := [z, TI, TO, i1, i2]) I6.os I6.base I6.hok I6.bare fun c hcm => ⟨(f3 c hcm).1.2.2.2.1, (f3 c hcm).1.2.1, (f3 c hcm).1.2.2.2.2.1, (f3 c hcm).1.2.2.2.2.2⟩
      have nC : H5 s3.heap.objs.size = none := by
        have z : H5 ce.locals = none := I6.free
        rw [cL] at z
        exact z
      obtain ⟨mm, hn, _⟩ := I6.loc
      have hn : h'.Ns ce.locals mm := hn
      rw [cL] at hn
      obtain ⟨f0, f1, f2, f3', f4, f5⟩ := I3.fpOk (Nat.le_refl _) nC
      refine ⟨mm, hn, fun h'' sb => ⟨.ref D, H5, I7.turned (t' := s5.toks) (fun c o hc q => (sb.2 c hc).trans q) f0 f1 f3' f4 f5, rfl, ?_⟩⟩
      rw [List.take_of_length_le (by rw [List.length_zip]; omega)] at hD5
      exact q H5 D k5 hDn hD5
  exact codeAny_compStart_list loop (wpAny_pyIter_zip st4.1 loop)
theorem pe_pick (hc : L2H.HotC X) (hN : X.N.Nodup) (h1 : PE X e1 f1) (h2 : PE X e2 f2) (ok : BlkOk X.N X.env.scope scope [(wn, i), (gn, j)]) (hij : i ≠ j) (hmz : X.mg "zip" = none)
    (iw : X.N[i]? = some wn) (ig : X.N[j]? = some gn) (lw : scope.names.lookup wn = some .local) (lg : scope.names.lookup gn = some .local)
    (hgz : Gl X "zip" := by rfl) (hs : starEach [e1, e2] X.env = (false, eval e1 X.env) :: starEach [e2] X.env := by rfl) (hpl : (backTo cp (starEach [e2] X.env)).any (·.1) = false := by rfl) (hs2 : starEach [e2] X.env = [(false, eval e2 X.env)] := by rfl)
    (hfs : ∀ x, foldedSetIterable (.Call (.Name "zip" zp) [e1, e2] [] cp) X.env x = pure x := by intro _; rfl) (hd1 : (wn == ("__debug__" : Str)) = false := by decide) (hd2 : (gn == ("__debug__" : Str)) = false := by decide) (hd3 : (wn == ("__classdict__" : Str)) = false := by decide) (hd4 : (gn == ("__classdict__" : Str)) = false := by decide) :
    PE X (.ListComp (.Name wn p1) [⟨.Tuple [.Name wn p2, .Name gn p3] kk tp, .Call (.Name "zip" zp) [e1, e2] [] cp, [.Name gn p4], 0⟩] scope pos) (tPick f1 f2) := by
  refine ⟨fun pins s σ H Q I h => ?_⟩
  rw [eval_ListComp]
  have hfree : ∀ y ∈ scope.names, y.2 = .free → ∃ c, X.env.cells.lookup y.1 = some c := fun y hy e => (ok.free y hy e).elim (fun k => I.ok.has _ (.inl k)) (fun k => I.ok.has _ (.inr k))
  have hA : PA X [e1, e2] (tCons f1 (tCons f2 tNil)) := pa_cons h1 (pa_cons h2 pa_nil (by rw [hs2]; rfl)) hs
  refine wpAny_comprehension_free (use := none) rfl hfs (closure_ok hfree) ok.kind (fun y hy e => by rw [ok.uniq y hy, e])
    (Call_ (ld_blt I hgz hmz PyProof.Rows.boot_zip (PyProof.Rows.callWith_type1 (thn (hA.run cp pins s σ H (pickQs Q) I h) fun us s1 ⟨vs, H1, I1, r1, q1⟩ => ?_) hs hpl)))
  cases r1 with
  | nil => exact q1.elim
  | cons ra r1 =>
  cases r1 with
  | nil => exact q1.elim
  | cons rb r1 =>
  cases r1 with
  | cons _ _ => exact q1.elim
  | nil =>
  obtain ⟨a, b, ws, bs, ea, eb, ha, hb, hlen, hsm, q⟩ := q1
  subst ea eb
  cases ra
  cases rb
  obtain ⟨its, rv, pl1, _⟩ := I1.list (SqL.of (K := X.K) ha)
  obtain ⟨its2, rv2, pl2, _⟩ := I1.list (SqL.of (K := X.K) hb)
  have la : a < s1.heap.objs.size := pl1.lt
  have lb : b < s1.heap.objs.size := pl2.lt
  refine call_zip_2 pl1.isList pl2.isList fun h' hz hTI hTO hi1 hi2 hsz hk => wpAny_pyIter_zip hz ?_
  have I2 : Inv X pins σ H1 { s1 with heap := h' } := I1.kept (t' := s1.toks) hk
  have AP := PySem.W.ktu_apart s1.heap.objs.size a b la lb
  have f2 : ∀ c ∈ [s1.heap.objs.size + 4, s1.heap.objs.size + 2, s1.heap.objs.size + 3, s1.heap.objs.size, s1.heap.objs.size + 1], FpOk X pins H1 c := fun c hm => by
    have hle : s1.heap.objs.size ≤ c := by
      simp only [List.mem_cons, List.not_mem_nil, or_false] at hm
      rcases hm with z | z | z | z | z <;> rw [z] <;> first | exact Nat.le_add_right _ _ | exact Nat.le_refl _
    exact I1.fpOk hle (I1.hok.fresh hle)
  exact pick_run hc hN ok hij iw ig lw lg hd1 hd2 hd3 hd4 I2 f2 AP ⟨hz, hTI, ⟨_, _, hTO⟩, hi1, hi2⟩ ha hb hlen hsm q
end
end Z
end
section
set_option maxHeartbeats 4000000
/-! Texts split and joined; errors that are caught; a def called while one is handled. -/
namespace Z
open PySem PySem.Spec PyProof.Rows L2

section
variable {K : PySem.W.Frag} {mg : Str → Option Value} {T : Tb} {O : Ow} {H H' : Hp} {S : Store}
theorem SOk.same (s : SOk K mg T O H S) (e : Same H H') : SOk K mg T O H' S := by
  refine ⟨s.len, s.nd, fun n a c e1 e2 => ?_, s.tabs.ext e, T.mono (Le.same' e).w s.inv, fun q hq => ?_⟩
  · have := s.cell n a c e1 e2
    cases c with
    | lst ds =>
      obtain ⟨vs, z, t⟩ := this
      exact ⟨vs, e _ _ z, Rps.le0 t (Le.same' e)⟩
  · obtain ⟨h1, vs, h2⟩ := s.own q hq
    exact ⟨h1, vs, e _ _ h2⟩
def strD : List D → Option (List Str)
  | [] => some []
  | .str b :: xs => (strD xs).map (b :: ·)
  | _ => none
theorem strD_rp {O : List Addr} {G : Hp} : ∀ {ds : List D} {vs : List V} {bs : List Str}, Rps K mg O G vs ds → strD ds = some bs → vs = bs.map V.str
  | _, _, _, .nil, e => by cases e; rfl
  | _, _, _, .cons (d := d) r t, e => by
    cases r with
    | str b =>
      rw [strD] at e
      obtain ⟨bs', h, rfl⟩ := Option.map_eq_some_iff.mp e
      rw [strD_rp t h]
      rfl
    | _ => simp [strD] at e
theorem rps_str {O : List Addr} {G : Hp} : ∀ ys : List Str, Rps K mg O G (ys.map V.str) (ys.map D.str)
  | [] => .nil
  | y :: ys => .cons (.str y) (rps_str ys)
def isStr : D → M Str
  | .str s => pure s
  | _ => no
theorem po_isStr {α β : Type} {R : List Addr → Hp → β → α → Prop} {d : D} {v : V} {f : Str → M α} {Q : β → Hp → Prop} {Ex : XK} (r : Rp K mg O.cs (hide O H) v d) (h : Po K mg T R ((isStr d >>= f) S) O H Q Ex) :
    ∃ s, v = .str s ∧ d = .str s ∧ Po K mg T R (f s S) O H Q Ex := by
  cases r with
  | str s => exact ⟨s, rfl, rfl, h⟩
  | _ => exact h.elim
end
section
variable {X : Cx} {T : Tb} {E : XKs} {o e : Expr} {f g : BE} {apos pos : Pos}
/-! ### texts -/
/-- a text's method of one argument -/
def eS1 (h : Str → D → M D) (f g : BE) : BE := fun env => f env >>= fun a => isStr a >>= fun s => g env >>= fun b => h s b
theorem de_s1 {r : V → List V → Hp → VK → Prop} {h : Str → D → M D} {m : Str} (hp : ∀ {to te : TE}, PE X o to → PE X e te → PE X (.Call (.Attribute o m apos) [e] [] pos) (tM1 r to te))
    (hr : ∀ O H S y a b Q E, SOk X.K X.mg T O H S → Rp X.K X.mg O.cs (hide O H) y b → Po X.K X.mg T (Rp X.K X.mg) (h a b S) O H Q E → r (.str a) [y] H Q) (ho : DE X T E o f) (he : DE X T E e g) :
    DE X T E (.Call (.Attribute o m apos) [e] [] pos) (eS1 h f g) :=
  ⟨(hp ho.pe he.pe).monoZ fun σ H Q ⟨env, S, O, re, so, q⟩ => ⟨env, S, O, re, so, Po.bind q fun a S1 O1 H1 x l s1 r1 q1 => by
    obtain ⟨s, rfl, rfl, q1⟩ := po_isStr r1 q1
    exact ⟨⟨s, rfl⟩, env, S1, O1, re.mono l, s1, Po.bind q1 fun b S2 O2 H2 y l2 s2 r2 q2 => hr O2 H2 S2 y s b Q _ s2 r2 q2⟩⟩⟩
def gSplit (a : Str) (b : D) : M D := match b with
  | .str b => if (b.length == 0) = false ∧ a.length ≤ 1000000 then pure (.list ((Txt.split a b).map .str)) else no
  | _ => no
theorem de_split (ho : DE X T E o f) (he : DE X T E e g) (hs : starEach [e] X.env = [(false, eval e X.env)] := by rfl) (hbase : attributeBase o "split" X.env (eval o X.env) = eval o X.env := by rfl) (hline : (apos.endLine == pos.line) = true := by rfl) :
    DE X T E (.Call (.Attribute o "split" apos) [e] [] pos) (eS1 gSplit f g) :=
  de_s1 (fun ho he => pe_split ho he hs hbase hline) (fun O H S y a b Q E so r q => by
    unfold gSplit at q
    split at q
    · cases r
      split at q
      · rename_i h
        exact ⟨a, _, rfl, rfl, h.1, by have := h.2; rw [sizeLine_eq]; omega, new_lst so (rps_str _) q⟩
      · exact q.elim
    · exact q.elim) ho he
def gJoin (a : Str) (b : D) : M D := match b with
  | .list ds => ofO ((strD ds).bind fun ys => if (ys.map (·.length)).sum + ys.length * a.length ≤ 1000000 then some (.str (Txt.join a ys)) else none)
  | .tuple ds => ofO ((strD ds).bind fun ys => if (ys.map (·.length)).sum + ys.length * a.length ≤ 1000000 then some (.str (Txt.join a ys)) else none)
  | _ => no
theorem de_join (ho : DE X T E o f) (he : DE X T E e g) (hs : starEach [e] X.env = [(false, eval e X.env)] := by rfl) (hbase : attributeBase o "join" X.env (eval o X.env) = eval o X.env := by rfl) (hline : (apos.endLine == pos.line) = true := by rfl) :
    DE X T E (.Call (.Attribute o "join" apos) [e] [] pos) (eS1 (fun a b => rd b >>= gJoin a) f g) :=
  de_s1 (fun ho he => pe_join ho he hs hbase hline) (fun O H S y a b Q E so r q => by
    obtain ⟨b', sb, q⟩ := rd_po so r q
    unfold gJoin at q
    split at q
    · obtain ⟨d, h, q⟩ := po_ofO q
      obtain ⟨ys, h1, h2⟩ := Option.bind_eq_some_iff.mp h
      split at h2
      · rename_i hz
        cases h2
        obtain ⟨p, vs, rfl, h3, t⟩ := sb.list
        have ev := strD_rp t h1
        subst ev
        exact ⟨a, p, ys, rfl, rfl, .inl (.inl (.inl h3)), by omega, q O H _ Le.refl so (.str _)⟩
      · cases h2
    · obtain ⟨d, h, q⟩ := po_ofO q
      obtain ⟨ys, h1, h2⟩ := Option.bind_eq_some_iff.mp h
      split at h2
      · rename_i hz
        cases h2
        cases sb with
        | of r _ =>
          cases r with
          | tup h3 t =>
            have ev := strD_rp t h1
            subst ev
            exact ⟨a, _, ys, rfl, rfl, .inr (st_le h3), by omega, q O H _ Le.refl so (.str _)⟩
      · cases h2
    · exact q.elim) ho he

/-! ### the words whose truths are true, while an error is handled -/
def gPick (a b : D) : M D := match a, b with
  | .list ds, .list es => ofO ((bools es).bind fun bs => if ds.length = bs.length ∧ ds.length ≤ 1000 then some (.list (pickD ds bs)) else none)
  | _, _ => no
def ePick (f g : BE) : BE := fun env => f env >>= fun a => g env >>= fun b => rd b >>= fun b => gPick a b
theorem pick_rps {K : PySem.W.Frag} {mg : Str → Option Value} {O : List Addr} {G : Hp} : ∀ {ds : List D} {vs : List V} {bs : List Bool}, Rps K mg O G vs ds → Rps K mg O G (((vs.zip bs).filter (·.2)).map (·.1)) (pickD ds bs)
  | _, _, [], .nil => by simp [pickD]; exact .nil
  | _, _, [], .cons _ _ => by simp [pickD]; exact .nil
  | _, _, _ :: _, .nil => by simp [pickD]; exact .nil
  | _, _, b :: bs, .cons r t => by
    cases b with
    | true => simpa [pickD] using Rps.cons r (pick_rps t)
    | false => simpa [pickD] using pick_rps t
theorem de_pick {e1 e2 : Expr} {f1 f2 : BE} {wn gn : Str} {i j : Nat} {scope : Scope} {p1 p2 p3 p4 pos zp cp tp : Pos} {kk : Nat} (hc : L2H.HotC X) (hN : X.N.Nodup) (h1 : DE X T E e1 f1) (h2 : DE X T E e2 f2) (hmz : X.mg "zip" = none)
    (ok : BlkOk X.N X.env.scope scope [(wn, i), (gn, j)] := by exact blkOk_by (by decide +kernel)) (hij : i ≠ j := by decide)
    (iw : X.N[i]? = some wn := by rfl) (ig : X.N[j]? = some gn := by rfl) (lw : scope.names.lookup wn = some .local := by rfl) (lg : scope.names.lookup gn = some .local := by rfl)
    (hgz : Gl X "zip" := by rfl) (hs : starEach [e1, e2] X.env = (false, eval e1 X.env) :: starEach [e2] X.env := by rfl) (hpl : (backTo cp (starEach [e2] X.env)).any (·.1) = false := by rfl) (hs2 : starEach [e2] X.env = [(false, eval e2 X.env)] := by rfl)
    (hfs : ∀ x, foldedSetIterable (.Call (.Name "zip" zp) [e1, e2] [] cp) X.env x = pure x := by intro _; rfl) (hd1 : (wn == ("__debug__" : Str)) = false := by decide) (hd2 : (gn == ("__debug__" : Str)) = false := by decide) (hd3 : (wn == ("__classdict__" : Str)) = false := by decide) (hd4 : (gn == ("__classdict__" : Str)) = false := by decide) :
    DE X T E (.ListComp (.Name wn p1) [⟨.Tuple [.Name wn p2, .Name gn p3] kk tp, .Call (.Name "zip" zp) [e1, e2] [] cp, [.Name gn p4], 0⟩] scope pos) (ePick f1 f2) :=
  ⟨(pe_pick hc hN h1.pe h2.pe ok hij hmz iw ig lw lg hgz hs hpl hs2 hfs hd1 hd2 hd3 hd4).monoZ fun σ H Q ⟨env, S, O, re, so, q⟩ =>
    ⟨env, S, O, re, so, Po.bind q fun a S1 O1 H1 x l s1 r1 q1 => ⟨env, S1, O1, re.mono l, s1, Po.bind q1 fun b S2 O2 H2 y l2 s2 r2 q2 => by
      obtain ⟨b', sb, q2⟩ := rd_po s2 r2 q2
      unfold gPick at q2
      split at q2
      · obtain ⟨d, h, q3⟩ := po_ofO q2
        obtain ⟨bs, hb, h4⟩ := Option.bind_eq_some_iff.mp h
        split at h4
        · rename_i hz
          cases h4
          obtain ⟨p, vs, rfl, h5, t5⟩ := sb.list
          have ev := bools_rp t5 hb
          subst ev
          have r1' := r1.le l2
          cases r1' with
          | lst h6 t6 =>
            refine ⟨_, p, _, bs, rfl, rfl, (hide_le h6).2.1, h5, by rw [t6.length]; exact hz.1, by rw [t6.length]; exact hz.2, fun H' lp hs hn hl => ?_⟩
            have s3 := s2.same hs
            have ll : Le O2 H2 O2 H' := Le.same' hs
            exact q3 O2 H' _ ll s3 (.lst (hide_of (s2.ne hn) hl) (pick_rps (t6.le ll)))
        · cases h4
      · exact q2.elim⟩⟩⟩

/-! ### is the error that is handled one of these -/
theorem call_isEP {a D : Addr} {oe : Obj} (hp : (a, oe) ∈ X.pn) (C : ExcC X.K D) (hz : Zc (.ref D) none oe) (hf : ∃ vs, oe.data = .fields vs) : CallR X (.builtin "isinstance") (rIsE X.K D a) := by
  intro pins s σ H xs us Q I r h
  obtain ⟨c, cv, b, rfl, hcv, e, q⟩ := h
  cases r with
  | cons rx rr =>
    cases rr with
    | cons rt rr =>
      cases rr
      cases rx
      have ec := hcv _ rt
      subst ec
      obtain ⟨hget, _⟩ := I.pin (a, oe) (List.mem_append.mpr (.inl hp))
      obtain ⟨vs, hv⟩ := hf
      have J : PySem.W.InstAt s.heap a oe D none := by
        obtain ⟨oc, od, oda, osl⟩ := oe
        obtain ⟨h1, h2⟩ := hz
        dsimp only at h1 h2 hv
        subst h1 h2 hv
        exact ⟨hget, rfl, rfl, trivial⟩
      exact PySem.W.kia_one (PySem.W.handS_kitx_exc C.hg C.hk C.hs C.hd C.ha C.hn C.ht C.hm) I.kIn J e (fun z => nomatch z) fun tk => ⟨.bl b, H, I.kept (t' := tk) fun _ _ z => z, rfl, q⟩
/-- the own errors' classes: what isinstance answers of them -/
structure Errs (K : PySem.W.Frag) (mg : Str → Option Value) (cs : List Str) : Prop where
  cls : ∀ c ∈ cs, ∃ C, mg c = some (.ref C) ∧ ExcC K C
  kit : ∀ c ∈ cs, ∀ d ∈ cs, ∀ C D, mg c = some (.ref C) → mg d = some (.ref D) → PySem.W.kitOne K (.ref C) (.ref D) = some (decide (c = d))
  val : ∀ c ∈ cs, ∀ C, mg c = some (.ref C) → PySem.W.kitOne K (.ref C) (.type "ValueError") = some true
  bas : ∀ c ∈ cs, ∀ C B, mg c = some (.ref C) → mg "AimError" = some (.ref B) → PySem.W.exmOne K (.ref C) (.ref B) = some true
def eIsE (a : Addr) (b : Bool) (f : BE) : BE := fun env => f env >>= fun d => match d with
  | .adr a' => if a' = a then pure (.bool b) else no
  | _ => no
theorem de_isE {a : Addr} {oe : Obj} {C : Addr} {c dn x : Str} {cs : List Str} {e : Expr} {f : BE} {p p2 pos : Pos} (he : DE X T E e f) (ec : Errs X.K X.mg cs) (hp : (a, oe) ∈ X.pn) (hz : Zc (.ref C) none oe) (hf : ∃ vs, oe.data = .fields vs) (hc : c ∈ cs) (hC : X.mg c = some (.ref C)) (hd : dn ∈ cs)
    (hm : X.mg x = none) (hv : bootBuiltins x = some (.builtin "isinstance")) (hg : Gl X x := by rfl) (hg2 : Gl X dn := by rfl) (hn : x ≠ "__name__" := by decide) (hdb : (x == ("__debug__" : Str)) = false := by decide) (hdb2 : (dn == ("__debug__" : Str)) = false := by decide)
    (h1 : starEach [e, .Name dn p2] X.env = (false, eval e X.env) :: starEach [.Name dn p2] X.env := by rfl) (hpl : (backTo pos (starEach [.Name dn p2] X.env)).any (·.1) = false := by rfl) (h2 : starEach [.Name dn p2] X.env = [(false, eval (.Name dn p2) X.env)] := by rfl) :
    DE X T E (.Call (.Name x p) [e, .Name dn p2] [] pos) (eIsE a (decide (c = dn)) f) := by
  obtain ⟨D', hD, _⟩ := ec.cls dn hd
  obtain ⟨C', hC', xc⟩ := ec.cls c hc
  obtain rfl : C' = C := by rw [hC] at hC'; cases hC'; rfl
  have ek := ec.kit c hc dn hd _ _ hC hD
  exact ⟨(pe_callB (call_isEP hp xc hz hf) hg hm hv (pa_cons he.pe (pa_cons (pe_glob (v := .ref D') hg2 hD rfl hdb2) pa_nil (by rw [h2]; rfl)) h1) hn hdb h1 hpl).monoZ fun σ H Q ⟨env, S, O, re, so, q⟩ =>
    ⟨env, S, O, re, so, Po.bind q fun d S1 O1 H1 x l s1 r1 q1 => by
      cases r1 with
      | adr a' =>
        dsimp only at q1
        split at q1
        · rename_i e
          subst e
          exact ⟨.ref D', .ref D', _, rfl, fun u hu => hu, ek, q1 O1 H1 _ Le.refl s1 (.bl _)⟩
        · exact q1.elim
      | _ => exact q1.elim⟩⟩
/-- isinstance(e, ValueError) -/
theorem de_isEV {a : Addr} {oe : Obj} {C : Addr} {c dn x : Str} {cs : List Str} {e : Expr} {f : BE} {p p2 pos : Pos} (he : DE X T E e f) (ec : Errs X.K X.mg cs) (hp : (a, oe) ∈ X.pn) (hz : Zc (.ref C) none oe) (hf : ∃ vs, oe.data = .fields vs) (hc : c ∈ cs) (hC : X.mg c = some (.ref C))
    (hm : X.mg x = none) (hv : bootBuiltins x = some (.builtin "isinstance")) (hm2 : X.mg dn = none) (hv2 : bootBuiltins dn = some (.type "ValueError")) (hg : Gl X x := by rfl) (hg2 : Gl X dn := by rfl) (hn : x ≠ "__name__" := by decide) (hdb : (x == ("__debug__" : Str)) = false := by decide) (hn2 : dn ≠ "__name__" := by decide) (hdb2 : (dn == ("__debug__" : Str)) = false := by decide)
    (h1 : starEach [e, .Name dn p2] X.env = (false, eval e X.env) :: starEach [.Name dn p2] X.env := by rfl) (hpl : (backTo pos (starEach [.Name dn p2] X.env)).any (·.1) = false := by rfl) (h2 : starEach [.Name dn p2] X.env = [(false, eval (.Name dn p2) X.env)] := by rfl) :
    DE X T E (.Call (.Name x p) [e, .Name dn p2] [] pos) (eIsE a true f) := by
  obtain ⟨C', hC', xc⟩ := ec.cls c hc
  obtain rfl : C' = C := by rw [hC] at hC'; cases hC'; rfl
  have ek := ec.val c hc _ hC
  exact ⟨(pe_callB (call_isEP hp xc hz hf) hg hm hv (pa_cons he.pe (pa_cons (pe_bltn (v := .ty "ValueError") hg2 hm2 hv2 rfl hn2 hdb2) pa_nil (by rw [h2]; rfl)) h1) hn hdb h1 hpl).monoZ fun σ H Q ⟨env, S, O, re, so, q⟩ =>
    ⟨env, S, O, re, so, Po.bind q fun d S1 O1 H1 x l s1 r1 q1 => by
      cases r1 with
      | adr a' =>
        dsimp only at q1
        split at q1
        · rename_i e
          subst e
          exact ⟨.ty "ValueError", .type "ValueError", _, rfl, fun u hu => hu, ek, q1 O1 H1 _ Le.refl s1 (.bl _)⟩
        · exact q1.elim
      | _ => exact q1.elim⟩⟩
end
end Z
end
section
set_option maxHeartbeats 4000000
/-! A def called with the error that is handled; try with one clause that returns. -/
namespace Z
open PySem PySem.Spec PyProof.Rows L2

/-- x(e), e the error that is handled, is a text told by the error's class -/
structure Named (P : Program) (w : World) (K : PySem.W.Frag) (mg : Str → Option Value) (base : Heap) (T : Tb) (k : Nat) (x : Str) (cs : List Str) (wd : Str → Str) : Prop where
  ex : ∃ f fd q, mg x = some (.ref f) ∧ PySem.W.keepIn K (.ref f) = true ∧ Binds K fd [q] [] ∧
    ∀ (A : Around) (outer : List Env) (s : Shared) (H : Hp) (a : Addr) (oe : Obj) (c : Str) (C : Addr) (O : Ow) (S : Store) (Q : VK) (E : XK) (args : Args), L2H.RoomH k A → L2H.Hot1 A (a, oe) → L2H.PinOk outer H s (a, oe) → Env0 P w K mg base A outer s H → BindsTo s fd args ([q].zip [.ref a]) →
      c ∈ cs → mg c = some (.ref C) → L2N.Zn (.ref C) none oe → (∃ vs, oe.data = .fields vs) → SOk K mg T O H S → Po K mg T (Rp K mg) (.ok (.str (wd c)) S) O H Q E →
      codeAny (model P w) A (.call (.ref f) args) (CR (L2N.CX P w) outer P w H s Q E) s
theorem named_def {P : Program} {w : World} {K : PySem.W.Frag} {mg : Str → Option Value} {base : Heap} {T : Tb} {k : Nat} {x q : Str} {st : Stmt} {f : Addr} {fd : FuncData} {N : List Str} {cs : List Str} {wd : Str → Str} {b : Addr → Str → BS}
    (F : L2.Fun K x x st f fd) (S : FnScope N [q] (defScope st)) (hm : mg x = some (.ref f)) (hb : Binds K fd [q] [])
    (body : ∀ (a : Addr) (oe : Obj) (c : Str) (C : Addr) (cdv : Value) (A : Around) (outer : List Env) (s : Shared) (H : Hp) (E : XK), c ∈ cs → mg c = some (.ref C) → Zc (.ref C) none oe → (∃ vs, oe.data = .fields vs) → (a, oe) ∈ (L2H.cxH (L2N.CX P w) P w K mg base N x (defScope st) f cdv A outer s H E (a, oe)).pn →
      L2H.HotC (L2H.cxH (L2N.CX P w) P w K mg base N x (defScope st) f cdv A outer s H E (a, oe)) → DSs (L2H.cxH (L2N.CX P w) P w K mg base N x (defScope st) f cdv A outer s H E (a, oe)) T E0s (defBody st) (b a c))
    (hg : ∀ a c S0, c ∈ cs → fnOf true N.length (b a c) [.adr a] S0 = .ok (.str (wd c)) S0) : Named P w K mg base T (k + 1) x cs wd := by
  refine ⟨f, fd, q, hm, F.kp, hb, ?_⟩
  obtain ⟨oc, od, kV, doc, pm, an, cdv, ct, osl, rfl, lk, hcd⟩ := F.ex
  intro A outer s H a oe c C O S0 Q E args hr hot hpin e0 hbd hc hC hz hf so q0
  have KX : K.In s.heap := e0.mod.kin.keeps fun b o e => (e0.bs b o e).1
  have lim : s.heap.NoLimit := e0.mod.nolimit.keeps fun b o e => (e0.bs b o e).1
  have hkind : ∀ y ∈ [q].zip [Value.ref a], (defScope st).names.lookup y.1 = some .local ∨ ((defScope st).names.lookup y.1 = some .cell ∧ ((cellsFrom (s.heap.objs.size + 1) (defScope st).names []).lookup y.1).isSome = true) := fun ⟨n, v⟩ hy => by
    rcases S.par n (List.of_mem_zip hy).1 with q | q
    · exact .inl q
    · exact .inr ⟨q, PySem.W.cellsFrom_some _ _ _ (.inl q)⟩
  refine codeAny_call_function hr.depth (KX _ _ lk) rfl S.co S.gen rfl (PySem.W.codeRec_of KX hcd) (hbd _ _ _ _ ?_)
  refine wpAny_newFunctionEnv_cells S.kind hkind fun env he s1 x1 => ?_
  subst he
  refine ⟨lim.keeps x1.toInCall.keep, codeAny_func ?_⟩
  have I : Inv (L2H.cxH (L2N.CX P w) P w K mg base N x (defScope st) f cdv A outer s H E (a, oe)) [] (L2.start N [V.ref a]) H s1 := L2H.inv_startH S hpin e0 rfl (.cons rfl .nil) x1
  have hpl : 1 ≤ N.length := by have := congrArg List.length S.pre; rw [List.length_take] at this; simp at this; omega
  have Db := body a oe c C cdv A outer s H E hc hC hz.zc hf (by show (a, oe) ∈ [(a, oe)]; simp) ⟨(a, oe), hot, by show (a, oe) ∈ [(a, oe)]; simp⟩
  have eg := hg a c S0 hc
  have rs : Rps K mg O.cs (hide O H) [V.ref a] [D.adr a] := .cons (.adr a) .nil
  refine wpAny_mono (Db.pss.run [] s1 (L2.start N [V.ref a]) H { nx := fun _ H' => Q .non H', rt := Q } I ⟨[D.adr a].map some ++ List.replicate (N.length - 1) none, S0, O, renv_start rs hpl, so, ?_⟩) (fun fl s' hs => ?_) fun e s' hs => hs
  · have q1 : Po K mg T (Rp K mg) (endF true S0.length (b a c ([D.adr a].map some ++ List.replicate (N.length - 1) none) S0)) O H Q E := by
      have e1 : endF true S0.length (b a c ([D.adr a].map some ++ List.replicate (N.length - 1) none) S0) = .ok (.str (wd c)) S0 := eg
      rw [e1]
      exact q0
    show PoS K mg T (b a c ([D.adr a].map some ++ List.replicate (N.length - 1) none) S0) O H { nx := fun _ H' => Q .non H', rt := Q } E0s
    have e1 : endF true S0.length (b a c ([D.adr a].map some ++ List.replicate (N.length - 1) none) S0) = .ok (.str (wd c)) S0 := eg
    cases eb : b a c ([D.adr a].map some ++ List.replicate (N.length - 1) none) S0 with
    | next env S' =>
      rw [eb] at e1
      exact absurd e1 (by unfold endF; simp)
    | ret d S' =>
      rw [eb] at q1
      intro O' H' v l so' rv
      exact endT_ok so l so' rv q1
    | err c env S' => rw [eb] at e1; exact absurd e1 (by unfold endF; simp)
    | brk env S' => rw [eb] at e1; exact absurd e1 (by unfold endF; simp)
    | cont env S' => rw [eb] at e1; exact absurd e1 (by unfold endF; simp)
    | no => rw [eb] at e1; exact absurd e1 (by unfold endF; simp)
  · have fin : ∀ {σ' : L2.St} {H' : Hp} {v : V} {u : Value}, Inv (L2H.cxH (L2N.CX P w) P w K mg base N x (defScope st) f cdv A outer s H E (a, oe)) [] σ' H' s' → RelV v u → Q v H' → CE outer P w H s Q u s' :=
      fun {σ' H' v u} J rv q => ⟨v, H', J.os, J.bare, J.base, J.hok, rv, q⟩
    cases fl with
    | ret u =>
      obtain ⟨v, σ', H', J, rv, q⟩ := hs
      exact fin J rv q
    | next =>
      obtain ⟨σ', H', J, q⟩ := hs
      exact fin (v := V.non) (u := Value.none) J rfl q
    | brk =>
      obtain ⟨_, _, _, q⟩ := hs
      exact False.elim q
    | cont =>
      obtain ⟨_, _, _, q⟩ := hs
      exact False.elim q
section
variable {X : Cx} {T : Tb} {E : XKs} {k : Nat}
def eNamed (a : Addr) (r : Str) (f : BE) : BE := fun env => f env >>= fun d => match d with
  | .adr a' => if a' = a then pure (.str r) else no
  | _ => no
theorem hotC_of {a C : Addr} {oe : Obj} (hA : X.A.handled = some (.ref a)) (hp : (a, oe) ∈ X.pn) (hz : L2N.Zn (.ref C) none oe) (hf : ∃ vs, oe.data = .fields vs) : L2H.HotC X := by
  obtain ⟨vs, hv⟩ := hf
  exact ⟨(a, oe), ⟨hA, vs, hv, hz.2.2 vs hv⟩, hp⟩
/-- x(e) in the clause's suite -/
theorem de_named {a C : Addr} {oe : Obj} {c x : Str} {cs : List Str} {wd : Str → Str} {e : Expr} {f : BE} {p pos : Pos} (F : Named X.prog X.w X.K X.mg X.base T k x cs wd) (hr : L2H.RoomH k X.A) (hA : X.A.handled = some (.ref a)) (hp : (a, oe) ∈ X.pn) (hz : L2N.Zn (.ref C) none oe) (hf : ∃ vs, oe.data = .fields vs) (hc : c ∈ cs) (hC : X.mg c = some (.ref C)) (he : DE X T E0s e f)
    (hg : Gl X x := by rfl) (hdb : (x == ("__debug__" : Str)) = false := by decide) (h1 : starEach [e] X.env = (false, eval e X.env) :: starEach [] X.env := by rfl) (hpl : (backTo pos (starEach [] X.env)).any (·.1) = false := by rfl) :
    DE X T E0s (.Call (.Name x p) [e] [] pos) (eNamed a (wd c) f) := by
  obtain ⟨fa, fd, qn, hm, hk, hb, run⟩ := F.ex
  obtain ⟨vs0, hv0⟩ := hf
  refine ⟨⟨fun pins s σ H Q I h => ?_⟩⟩
  refine wpAny_Call_Name_kw (ld_glob I hg hm ?_ hdb)
  have ha : PA X [e] (tCons (tD X.K X.mg T E0s f) tNil) := pa_cons he.pe pa_nil h1
  obtain ⟨env, S, O, re, so, q⟩ := h
  have q : Po X.K X.mg T (Rp X.K X.mg) ((f env >>= fun d => match d with
    | .adr a' => if a' = a then pure (.str (wd c)) else no
    | _ => no) S) O H Q (E0s σ) := q
  refine PySem.W.callWith_K (h₀ := X.base) I.ok.mod.kin hk (thn (ha.run pos pins s σ H (fun vs H1 => ∃ O1 S1, vs = [V.ref a] ∧ SOk X.K X.mg T O1 H1 S1 ∧ Po X.K X.mg T (Rp X.K X.mg) (.ok (.str (wd c)) S1) O1 H1 Q (E0s σ)) I ?_) fun us s1 ⟨vs, H1, I1, r, O1, S1, ev, s1', q1⟩ => ⟨I1.kIn, ?_⟩) h1 hpl
  · refine ⟨env, S, O, re, so, Po.bind q fun d S1 O1 H1 x l s1 r1 q1 => ?_⟩
    cases r1 with
    | adr a' =>
      dsimp only at q1
      split at q1
      · rename_i ea
        subst ea
        exact ⟨O1, S1, rfl, s1, q1⟩
      · exact q1.elim
    | _ => exact q1.elim
  · subst ev
    cases r with
    | cons ru rn =>
    cases rn
    cases ru
    have b := hb s1 [.ref a] I1.kIn rfl
    rw [List.append_nil] at b
    have P1 := I1.pin (a, oe) (List.mem_append_left _ hp)
    have hpin : L2H.PinOk X.stack H1 s1 (a, oe) := ⟨P1.1, P1.2.1, fun hm => (List.mem_cons.mp (I1.stkSub a hm)).elim P1.2.2.1 P1.2.2.2.1, P1.2.2.2.2⟩
    refine wpAny_call (codeAny_mono (run X.A X.stack s1 H1 a oe c C O1 S1 Q (fun _ _ _ => False) ⟨[.ref a], []⟩ hr ⟨hA, vs0, hv0, hz.2.2 vs0 hv0⟩ hpin I1.env0 b hc hC hz ⟨vs0, hv0⟩ s1' q1) fun r s' hq => ?_)
    cases r with
    | error e => exact passAt0 (σ := σ) pins H1 s1 e s' I1 hq
    | ok fl =>
      cases fl with
      | ret u => exact I1.after hq
      | next => exact False.elim hq
      | brk => exact False.elim hq
      | cont => exact False.elim hq

/-! ### try, one clause that returns -/
/-- h: what is returned when c is caught -/
def sTryR (cs : List Str) (i : Nat) (h : Str → D) (f : BS) : BS := fun env S => match f env S with
  | .err c env' S' => if c ∈ cs ∧ i < env'.length then .ret (h c) S' else .no
  | r => r
theorem ds_tryR {x n : Str} {CS : Addr} {i : Nat} {body suite : List Stmt} {b₀ : Stmt} {np pos pos' : Pos} {cs : List Str} {h : Str → D} {fb : BS} {fs : Addr → Str → BS} (c : Cok X E k) (hcs : X.mg x = some (.ref CS)) (hcc : ∀ c ∈ cs, ∀ C, X.mg c = some (.ref C) → PySem.W.exmOne X.K (.ref C) (.ref CS) = some true)
    (hb : ∀ (pn : List (Addr × Obj)) (xe : Value → Shared → Prop) (E' : XKs), Cok (X.tr pn xe) E' k → DSs (X.tr pn xe) T E' body fb)
    (hsu : ∀ (a : Addr) (oe : Obj) (c : Str) (C : Addr) (pn : List (Addr × Obj)), c ∈ cs → X.mg c = some (.ref C) → L2N.Zn (.ref C) none oe → (∃ vs, oe.data = .fields vs) → DSs (X.suite a ((a, oe) :: pn)) T E0s (b₀ :: suite) (fs a c))
    (hfs : ∀ (a : Addr) (c : Str) (env : Ev) (S : Store), c ∈ cs → i < env.length → fs a c (env.set i (some (.adr a))) S = .ret (h c) S)
    (hs : X.stack = X.env :: X.outer := by rfl) (hf : X.env.frame = some X.env.locals := by rfl) (hi : X.N[i]? = some n := by rfl) (hln : X.env.kindOf n = some .local := by rfl) (hg : Gl X x := by rfl) (hdb : (x == ("__debug__" : Str)) = false := by decide) :
    DS X T E (.Try body [.ExceptHandler (some (.Name x np)) (some n) (b₀ :: suite) pos'] [] [] pos) (sTryR cs i h fb) := by
  refine ⟨(L2N.ps_try_as (c := .ref CS) (tb := fun W => tDS X.K X.mg T (fun σ cls d H => W cls d σ H) fb)
      (ts := fun a cls d D σ H => ∃ c C, c ∈ cs ∧ cls = .ref C ∧ X.mg c = some (.ref C) ∧ d = none ∧ tDS X.K X.mg T E0s (fs a c) D σ H) hs hf c.nd hi hln ⟨hg, hdb, .inl hcs⟩ c.tk (fun W pn xe tk po => ?_) (fun a oe cls d pn hz hfi => ?_)).monoZ fun Dn σ H ⟨env, S, O, re, so, q⟩ => ⟨env, S, O, re, so, ?_⟩⟩
  · exact (hb pn xe (fun σ cls d H => W cls d σ H) ⟨c.calm, c.nd, fun σ => L2N.passAt tk σ, po, c.room, tk⟩).pss
  · refine ⟨fun pins s σ H D I hh => ?_⟩
    obtain ⟨c', C, hc', rfl, hC', rfl, hh⟩ := hh
    exact (hsu a oe c' C pn hc' hC' hz hfi).pss.run pins s σ H D I hh
  · unfold sTryR at q
    cases eb : fb env S with
    | err c' env' S' =>
      rw [eb] at q
      dsimp only at q
      split at q
      · rename_i hc'
        intro O' H' σ' C l so' re' hC
        refine ⟨true, hcc c' hc'.1 C hC, fun _ a na => ⟨c', C, hc'.1, rfl, hC, rfl, env'.set i (some (.adr a)), S', O', re'.set (.adr a), so', ?_⟩, fun z => by cases z⟩
        rw [hfs a c' env' S' hc'.1 hc'.2]
        exact fun O2 H2 v l2 so2 r2 => q O2 H2 v (l.trans l2) so2 r2
      · exact q.elim
    | next env' S' => rw [eb] at q; exact q
    | ret d S' => rw [eb] at q; exact q
    | brk env' S' => rw [eb] at q; exact q
    | cont env' S' => rw [eb] at q; exact q
    | no => rw [eb] at q; exact q
end
end Z
end
section
set_option maxHeartbeats 4000000
/-! Lambdas handed to defs. -/
namespace Z
open PySem PySem.Spec PyProof.Rows L2 LamX NdefX

section
variable {fs : List Addr} {H H' H1 : Hp} {h h' h1 : Heap}
theorem Un.slotCell (u : Un fs [] H H' h h') {c : Addr} {v : Option Value} (n : H c = none) (x : h.IsCell c v) : h'.IsCell c v := by
  obtain ⟨o, ho, hd⟩ := x
  obtain ⟨sl, e⟩ := u.any ho n (by simp)
  exact ⟨_, e, hd⟩
theorem cells_un {cl : List (Str × Addr)} {fr : List Str} {ws : List (Option V)} (C : CellsAt cl fr ws h H) (u : Un fs [] H H' h h') : CellsAt cl fr ws h' H' := by
  refine ⟨C.len, fun y c e => ?_, C.inj, fun i y e => ?_⟩
  · obtain ⟨n, v, z⟩ := C.all y c e
    obtain ⟨o, ho, _⟩ := id z
    exact ⟨u.free c o ho n (by simp), v, Un.slotCell u n z⟩
  · obtain ⟨c, hc, hv⟩ := C.has i y e
    refine ⟨c, hc, fun v ev => ?_⟩
    obtain ⟨x, r, z⟩ := hv v ev
    exact ⟨x, r, Un.slotCell u (C.all y c hc).1 z⟩
theorem Lw.trans {O O1 O2 : Ow} (a : Lw O H O1 H1) (b : Lw O1 H1 O2 H') : Lw O H O2 H' := by
  obtain ⟨⟨r, e⟩, s⟩ := a
  obtain ⟨⟨r', e'⟩, s'⟩ := b
  exact ⟨⟨r ++ r', by rw [e', e]; simp⟩, s.trans s'⟩
theorem Lw.refl {O : Ow} : Lw O H O H := Le.refl.w
end
/-! ### what stays true: the state came from another -/
def Tb.plus (T : Tb) (O0 : Ow) (H0 : Hp) : Tb := ⟨T.tabs, fun O H => T.inv O H ∧ Lw O0 H0 O H, fun l x => ⟨T.mono l x.1, Lw.trans x.2 l⟩⟩
structure TLe (T' T : Tb) : Prop where
  tabs : T'.tabs = T.tabs
  inv : ∀ O H, T'.inv O H → T.inv O H
theorem TLe.refl {T : Tb} : TLe T T := ⟨rfl, fun _ _ h => h⟩
theorem TLe.plus {T : Tb} {O0 : Ow} {H0 : Hp} : TLe (T.plus O0 H0) T := ⟨rfl, fun _ _ h => h.1⟩
section
variable {K : PySem.W.Frag} {mg : Str → Option Value} {T T' : Tb} {O : Ow} {H : Hp} {S : Store}
theorem SOk.down (s : SOk K mg T' O H S) (l : TLe T' T) : SOk K mg T O H S := ⟨s.len, s.nd, s.cell, by rw [← l.tabs]; exact s.tabs, l.inv _ _ s.inv, s.own⟩
theorem SOk.up (s : SOk K mg T O H S) (l : TLe T' T) (i : T'.inv O H) : SOk K mg T' O H S := ⟨s.len, s.nd, s.cell, by rw [l.tabs]; exact s.tabs, i, s.own⟩
theorem Po.down {α β : Type} {R : List Addr → Hp → β → α → Prop} {r : Res α} {Q : β → Hp → Prop} {Ex : XK} (so : SOk K mg T' O H S) (l : TLe T' T) (q : Po K mg T' R r O H Q Ex) : Po K mg T R r O H Q Ex := by
  cases r with
  | ok a S' => exact fun O' H' b le s rr => q O' H' b le (s.up l (T'.mono le.w so.inv)) rr
  | err c S' => exact fun O' H' C le s e => q O' H' C le (s.up l (T'.mono le.w so.inv)) e
  | no => exact q
theorem Po.up {α β : Type} {R : List Addr → Hp → β → α → Prop} {r : Res α} {Q : β → Hp → Prop} {Ex : XK} (l : TLe T' T) (q : Po K mg T R r O H Q Ex) : Po K mg T' R r O H Q Ex := by
  cases r with
  | ok a S' => exact fun O' H' b le s rr => q O' H' b le (s.down l) rr
  | err c S' => exact fun O' H' C le s e => q O' H' C le (s.down l) e
  | no => exact q
end
/-- the promise of the lambda at f, made in or before the state s0, H0 -/
structure LamP (P : Program) (w : World) (K : PySem.W.Frag) (mg : Str → Option Value) (base : Heap) (T : Tb) (fr : List Addr) (k : Nat) (s0 : Shared) (H0 : Hp) (O0 : Ow) (f : Addr) (n : Nat) (g : List D → M D) : Prop where
  obj : ∀ (s1 : Shared) (H1 : Hp), Un fr [] H0 H1 s0.heap s1.heap → PySem.W.FnAt f s1.heap
  run : ∀ (A : Around) (outer : List Env) (s1 : Shared) (H1 : Hp) (us : List Value) (vs : List V) (Q : VK) (E : XK), Room k A → Env0 P w K mg base A outer s1 H1 → Un fr [] H0 H1 s0.heap s1.heap → Vals vs us →
    (∃ ds S O, ds.length = n ∧ Lw O0 H0 O H1 ∧ Rps K mg O.cs (hide O H1) vs ds ∧ SOk K mg T O H1 S ∧ Po K mg T (Rp K mg) (g ds S) O H1 Q E) →
    codeAny (model P w) A (.call (.ref f) ⟨us, []⟩) (CR (L2N.CX P w) outer P w H1 s1 Q E) s1
theorem LamP.mono {P : Program} {w : World} {K : PySem.W.Frag} {mg : Str → Option Value} {base : Heap} {T : Tb} {fr : List Addr} {j k : Nat} {s0 : Shared} {H0 : Hp} {O0 : Ow} {f : Addr} {n : Nat} {g : List D → M D} (F : LamP P w K mg base T fr j s0 H0 O0 f n g) (h : j ≤ k) : LamP P w K mg base T fr k s0 H0 O0 f n g :=
  ⟨F.obj, fun A outer s1 H1 us vs Q E hr => F.run A outer s1 H1 us vs Q E (hr.mono h)⟩
/-- what a lambda computes: body over the arguments, then the captured names -/
def lamEv (n : Nat) (js : List Nat) (env : Ev) (ds : List D) : Ev := ds.map some ++ (js.map (fun j => env[j]?.getD none) ++ List.replicate (n - ds.length - js.length) none)
theorem cok_lam {P : Program} {w : World} {K : PySem.W.Frag} {mg : Str → Option Value} {base : Heap} {N ps fr : List Str} {F : NF} {f : Addr} {A : Around} {outer : List Env} {s : Shared} {H : Hp} {E : XK} {k : Nat} (S : NScope N ps fr F.scope)
    (hr : Room k (A.deeper (envF F f s.heap.objs.size))) : Cok (ncx (L2N.CX P w) P w K mg base N F f A outer s H E) (fun _ => E) k :=
  have tk : L2N.Takes (ncx (L2N.CX P w) P w K mg base N F f A outer s H E) (fun c d _ H => E c d H) := L2N.takes_of rfl rfl rfl rfl
  ⟨rfl, S.nd, fun σ => L2N.passAt tk σ, passes_of rfl, hr, tk⟩
section
variable {X : Cx} {pins : List (Addr × Obj)} {σ : L2.St} {H : Hp} {s : Shared} {T : Tb} {O : Ow}
theorem lam_p {N ps fr : List Str} {js : List Nat} {cl : List (Str × Addr)} {q : Str} {params : Arguments} {body : Expr} {scope : Scope} {pm ctv : Value} {f c' : Addr} {env : Ev} {fb : BE} {k : Nat} (I : Inv X pins σ H s) (re : REnv X.K X.mg O.cs (hide O H) σ env) (cp : Caps X cl fr js)
    (hf : s.heap.get? f = some (PySem.W.kla_obj "<lambda>" q params body scope cl pm c' ctv)) (hfn : H f = none) (hfr : f ∉ frs X.stack) (hc : hide O H c' = some (CodeO c' q)) (Sn : NScope N ps fr scope)
    (hbind : ∀ us : List Value, us.length = ps.length → bindArgs (PySem.W.kla_fn "<lambda>" q params body scope cl pm (.ref c') ctv) ⟨us, []⟩ = pure (ps.zip us))
    (hb : ∀ (A : Around) (outer : List Env) (s : Shared) (H : Hp) (E : XK), Cok (ncx (L2N.CX X.prog X.w) X.prog X.w X.K X.mg X.base N ⟨"<lambda>", q, params, [], scope, cl, c'⟩ f A outer s H E) (fun _ => E) k → DE (ncx (L2N.CX X.prog X.w) X.prog X.w X.K X.mg X.base N ⟨"<lambda>", q, params, [], scope, cl, c'⟩ f A outer s H E) T (fun _ => E) body fb) :
    LamP X.prog X.w X.K X.mg X.base T (frs X.stack) (k + 1) s H O f ps.length (fun as => fb (lamEv N.length js env as)) := by
  have C0 := cells_of I cp
  refine ⟨fun s1 H1 u => ⟨_, _, _, _, u.keep f _ hf hfn hfr (by simp)⟩, fun A outer s1 H1 us vs Q E hr e0 u r h => ?_⟩
  obtain ⟨ds, S, O1, hn, lw, rs, so, qq⟩ := h
  have of1 := u.keep f _ hf hfn hfr (by simp)
  have C1 := cells_un C0 u
  have hc1 : H1 c' = some (CodeO c' q) := (hide_le (lw.same _ _ hc)).2.1
  obtain ⟨⟨oc, vs0, t, hoc, hdc, hvc⟩, _, _⟩ := e0.hok c' _ hc1
  have hl : vs.length = ps.length := by rw [rs.length]; exact hn
  have lim : s1.heap.NoLimit := e0.mod.nolimit.keeps fun b o e => (e0.bs b o e).1
  refine PySem.W.kla_callFunE hr.depth of1 rfl Sn.co Sn.gen rfl ⟨c', oc, vs0, t, rfl, hoc, hdc, hvc⟩ ?_
  rw [hbind us (by rw [← r.length]; exact hl)]
  refine wpAny_pure (wpAny_newFunctionEnv Sn.nocell (fun ⟨n, _⟩ hy => Sn.par n (List.of_mem_zip hy).1) (fun h₁ hns hsb => ⟨lim.fresh _ hsb, ?_⟩) Sn.kind)
  have kp : ∀ b o, s1.heap.get? b = some o → h₁.get? b = some o := fun b o e => hsb.extBut b o (Nat.ne_of_lt (Heap.lt_size e)) (Heap.get?_push_of_some _ e)
  have J : Inv (ncx (L2N.CX X.prog X.w) X.prog X.w X.K X.mg X.base N ⟨"<lambda>", q, params, [], scope, cl, c'⟩ f A outer s1 H1 E) [] (startF N vs (js.map (slotAt σ))) H1 { s1 with heap := h₁, toks := s1.toks + (ps.zip us).length } :=
    inv_startN (F := ⟨"<lambda>", q, params, [], scope, cl, c'⟩) Sn hr.hd e0 hl r C1 hns kp
  have clen : js.length = fr.length := by
    have := congrArg List.length cp.at_
    simpa using this
  have hpl : ps.length + fr.length ≤ N.length := by
    have q := congrArg List.length Sn.pre
    rw [List.length_take, List.length_append] at q
    omega
  have re1 : REnv X.K X.mg O1.cs (hide O1 H1) (startF N vs (js.map (slotAt σ))) (lamEv N.length js env ds) := by
    refine ⟨by unfold startF lamEv; simp; omega, fun i d e => ?_⟩
    unfold lamEv at e
    unfold startF
    by_cases h1 : i < ds.length
    · rw [List.getElem?_append_left (by simpa using h1), List.getElem?_map] at e
      obtain ⟨d', e1, e2⟩ := Option.map_eq_some_iff.mp e
      cases e2
      obtain ⟨v, h3, h4⟩ := rs.get e1
      exact ⟨v, by rw [List.getElem?_append_left (by simp; omega), List.getElem?_map, h3]; rfl, h4⟩
    · rw [List.getElem?_append_right (by simp; omega), List.length_map] at e
      by_cases h2 : i - ds.length < js.length
      · rw [List.getElem?_append_left (by simpa using h2), List.getElem?_map] at e
        obtain ⟨j, e1, e2⟩ := Option.map_eq_some_iff.mp e
        obtain ⟨v, h3, h4⟩ := re.2 j d (by
          cases q1 : env[j]? with
          | none => rw [q1] at e2; cases e2
          | some o => rw [q1] at e2; cases e2; rfl)
        refine ⟨v, ?_, h4.mono lw.pre lw.same⟩
        rw [List.getElem?_append_right (by simp; omega), List.getElem?_append_left (by simp; omega), List.getElem?_map]
        have e3 : vs.length = ds.length := rs.length
        rw [List.length_map, e3, e1]
        exact congrArg some (slotAt_of h3)
      · rw [List.getElem?_append_right (by simp; omega), List.getElem?_replicate] at e
        split at e <;> cases e
  refine PySem.W.kla_codeExpr (wpAny_mono ((hb A outer s1 H1 E (cok_lam Sn (hr.deeper _))).pe.run [] _ _ H1 Q J ⟨_, S, O1, re1, so, qq⟩) (fun v s' hq => ?_) fun e s' hq => hq)
  obtain ⟨w', H', J', rv, q⟩ := hq
  exact ⟨w', H', J'.os, J'.bare, J'.base, J'.hok, rv, q⟩
end
end Z
end
section
set_option maxHeartbeats 4000000
/-! Defs that get a lambda; the lambda called there. -/
namespace Z
open PySem PySem.Spec PyProof.Rows L2 LamX NdefX

section
variable {X : Cx} {T T0 : Tb} {E : XKs} {k j : Nat}
def isAdr (f : Addr) : D → M Unit
  | .adr f' => if f' = f then pure () else no
  | _ => no
def eCallV (f : Addr) (n : Nat) (g : List D → M D) (v : BE) (fs : BA) : BE := fun env => v env >>= fun d => isAdr f d >>= fun _ => fs env >>= fun as => if as.length = n then g as else no
/-- what came to the running frame with the lambda holds of all its states -/
structure LamC (X : Cx) (T T0 : Tb) (fr : List Addr) (s0 : Shared) (H0 : Hp) (O0 : Ow) : Prop where
  le : TLe T T0
  org : ∀ O H, T.inv O H → Lw O0 H0 O H
  un : ∀ (pins : List (Addr × Obj)) (σ : L2.St) (H : Hp) (s : Shared), Inv X pins σ H s → Un fr [] H0 H s0.heap s.heap
theorem callV_run {fr : List Addr} {s0 : Shared} {H0 : Hp} {O0 : Ow} {f : Addr} {n : Nat} {g : List D → M D} (F : LamP X.prog X.w X.K X.mg X.base T0 fr j s0 H0 O0 f n g) (lc : LamC X T T0 fr s0 H0 O0) (c : Cok X E k) (hj : j ≤ k)
    {pins : List (Addr × Obj)} {σ : L2.St} {H : Hp} {s : Shared} {us : List Value} {vs : List V} {as : List D} {S : Store} {O : Ow} {Q : VK} (I : Inv X pins σ H s) (r : Vals vs us) (rs : Rps X.K X.mg O.cs (hide O H) vs as) (so : SOk X.K X.mg T O H S)
    (q : Po X.K X.mg T (Rp X.K X.mg) ((if as.length = n then g as else no : M D) S) O H Q (E σ)) : wpAny (model X.prog X.w) X.A (call (.ref f) us) (EP X pins σ Q) X.xe s := by
  by_cases hn : as.length = n
  · rw [if_pos hn] at q
    refine wpAny_call (codeAny_mono (F.run X.A X.stack s H us vs Q (E σ) (c.room.mono hj) I.env0 (lc.un pins σ H s I) r ⟨as, S, O, hn, lc.org O H so.inv, rs, so.down lc.le, Po.down so lc.le q⟩) fun r s' hq => ?_)
    cases r with
    | error e => exact c.pass σ pins H s e s' I hq
    | ok fl =>
      cases fl with
      | ret u => exact I.after hq
      | next => exact False.elim hq
      | brk => exact False.elim hq
      | cont => exact False.elim hq
  · rw [if_neg hn] at q
    exact q.elim
theorem po_adr {α β : Type} {K : PySem.W.Frag} {mg : Str → Option Value} {R : List Addr → Hp → β → α → Prop} {d : D} {v : V} {f : Addr} {m : Unit → M α} {S : Store} {O : Ow} {H : Hp} {Q : β → Hp → Prop} {Ex : XK} (r : Rp K mg O.cs (hide O H) v d) (h : Po K mg T R ((isAdr f d >>= m) S) O H Q Ex) :
    v = .ref f ∧ Po K mg T R (m () S) O H Q Ex := by
  cases r with
  | adr a =>
    unfold isAdr at h
    dsimp only at h
    split at h
    · rename_i e
      exact ⟨by rw [e], h⟩
    · exact h.elim
  | _ => exact h.elim
theorem de_callV0 {fr : List Addr} {s0 : Shared} {H0 : Hp} {O0 : Ow} {f : Addr} {n : Nat} {g : List D → M D} {a : Str} {v : BE} {p pos : Pos} (F : LamP X.prog X.w X.K X.mg X.base T0 fr j s0 H0 O0 f n g) (lc : LamC X T T0 fr s0 H0 O0) (c : Cok X E k) (hv : DE X T E (.Name a p) v) (hj : j ≤ k) :
    DE X T E (.Call (.Name a p) [] [] pos) (eCallV f n g v aNil) := by
  refine ⟨⟨fun pins s σ H Q I h => ?_⟩⟩
  obtain ⟨env, S, O, re, so, q⟩ := h
  refine wpAny_Call_Name_kw (thn (hv.pe.run pins s σ H (fun x H1 => x = .ref f ∧ ∃ O1 S1, SOk X.K X.mg T O1 H1 S1 ∧ Po X.K X.mg T (Rp X.K X.mg) ((if ([] : List D).length = n then g [] else no : M D) S1) O1 H1 Q (E σ)) I ⟨env, S, O, re, so, Po.bind q fun d S1 O1 H1 x l s1 r1 q1 => ?_⟩) fun u s1 ⟨x, H1, I1, r1, ev, O1, S1, so1, q1⟩ => ?_)
  · obtain ⟨e, q2⟩ := po_adr r1 q1
    exact ⟨e, O1, S1, s1, q2⟩
  · subst ev
    obtain rfl : u = Value.ref f := r1
    exact PySem.W.callWith_F0 (F.obj s1 H1 (lc.un _ _ _ _ I1)) (callV_run F lc c hj I1 .nil .nil so1 q1)
theorem de_callV {fr : List Addr} {s0 : Shared} {H0 : Hp} {O0 : Ow} {f : Addr} {n : Nat} {g : List D → M D} {a : Str} {v : BE} {e : Expr} {es : List Expr} {fs : BA} {p pos : Pos} (F : LamP X.prog X.w X.K X.mg X.base T0 fr j s0 H0 O0 f n g) (lc : LamC X T T0 fr s0 H0 O0) (c : Cok X E k) (hv : DE X T E (.Name a p) v) (ha : DA X T E (e :: es) fs) (hj : j ≤ k)
    (he : starEach (e :: es) X.env = (false, eval e X.env) :: starEach es X.env := by rfl) (hpl : (backTo pos (starEach es X.env)).any (·.1) = false := by rfl) :
    DE X T E (.Call (.Name a p) (e :: es) [] pos) (eCallV f n g v fs) := by
  refine ⟨⟨fun pins s σ H Q I h => ?_⟩⟩
  obtain ⟨env, S, O, re, so, q⟩ := h
  refine wpAny_Call_Name_kw (thn (hv.pe.run pins s σ H (fun x H1 => x = .ref f ∧ ∃ O1 S1, Le O H O1 H1 ∧ SOk X.K X.mg T O1 H1 S1 ∧ Po X.K X.mg T (Rp X.K X.mg) ((fs env >>= fun as => if as.length = n then g as else no) S1) O1 H1 Q (E σ)) I ⟨env, S, O, re, so, Po.bind q fun d S1 O1 H1 x l s1 r1 q1 => ?_⟩) fun u s1 ⟨x, H1, I1, r1, ev, O1, S1, l, so1, q1⟩ => ?_)
  · obtain ⟨e, q2⟩ := po_adr r1 q1
    exact ⟨e, O1, S1, l, s1, q2⟩
  · subst ev
    obtain rfl : u = Value.ref f := r1
    refine PySem.W.callWith_F (F.obj s1 H1 (lc.un _ _ _ _ I1)) (thn (ha.pa.run pos pins s1 σ H1 (fun vs H2 => ∃ as S2 O2, Rps X.K X.mg O2.cs (hide O2 H2) vs as ∧ SOk X.K X.mg T O2 H2 S2 ∧ Po X.K X.mg T (Rp X.K X.mg) ((if as.length = n then g as else no : M D) S2) O2 H2 Q (E σ)) I1 ⟨env, S1, O1, re.mono l, so1, Po.bind q1 fun as S2 O2 H2 xs l2 s2 r2 q2 => ⟨as, S2, O2, r2, s2, q2⟩⟩) fun us s2 ⟨vs, H2, I2, r2, as, S2, O2, rs, so2, q2⟩ => ⟨F.obj s2 H2 (lc.un _ _ _ _ I2), ?_⟩) he hpl
    exact callV_run F lc c hj I2 r2 rs so2 q2
end

/-! ### defs that get a lambda as their first argument -/
/-- x(lambda, ds): G tells what it makes of what the lambda computes -/
structure HFn (P : Program) (w : World) (K : PySem.W.Frag) (mg : Str → Option Value) (base : Heap) (T : Tb) (k : Nat) (x : Str) (n m : Nat) (G : (List D → M D) → List D → M D) : Prop where
  ex : ∃ fa fd ps, mg x = some (.ref fa) ∧ PySem.W.keepIn K (.ref fa) = true ∧ Binds K fd ps [] ∧ ps.length = n + 1 ∧
    ∀ (A : Around) (outer : List Env) (s : Shared) (H : Hp) (f : Addr) (g : List D → M D) (O : Ow) (S : Store) (us : List Value) (vs : List V) (ds : List D) (Q : VK) (E : XK) (args : Args), Room (k + 1) A → Env0 P w K mg base A outer s H → LamP P w K mg base T (frs outer) k s H O f m g →
      BindsTo s fd args (ps.zip (.ref f :: us)) → Vals vs us → ds.length = n → Rps K mg O.cs (hide O H) vs ds → SOk K mg T O H S → Po K mg T (Rp K mg) (G g ds S) O H Q E → codeAny (model P w) A (.call (.ref fa) args) (CR (L2N.CX P w) outer P w H s Q E) s
section
variable {P : Program} {w : World} {K : PySem.W.Frag} {mg : Str → Option Value} {base : Heap} {T : Tb} {k : Nat} {x : Str}
theorem hfn_def {n m : Nat} {st : Stmt} {f : Addr} {fd : FuncData} {N ps : List Str} {G : (List D → M D) → List D → M D} {ι : Type} {td : Bool} {b : ι → Addr → (List D → M D) → BS}
    (F : L2.Fun K x x st f fd) (S : FnScope N ps (defScope st)) (hm : mg x = some (.ref f)) (hb : Binds K fd ps []) (hn : ps.length = n + 1)
    (body : ∀ (i : ι) (fl : Addr) (g : List D → M D) (cdv : Value) (A : Around) (outer : List Env) (s : Shared) (H : Hp) (E : XK) (O0 : Ow), fd.code = cdv → LamP P w K mg base T (frs outer) k s H O0 fl m g →
      (∀ (pn : List (Addr × Obj)) (xe : Value → Shared → Prop), LamC ((cxOf (L2N.CX P w) P w K mg base N x (defScope st) f cdv A outer s H E).tr pn xe) (T.plus O0 H) T (frs outer) s H O0) →
      Cok (cxOf (L2N.CX P w) P w K mg base N x (defScope st) f cdv A outer s H E) (fun _ => E) k → DSs (cxOf (L2N.CX P w) P w K mg base N x (defScope st) f cdv A outer s H E) (T.plus O0 H) (fun _ => E) (defBody st) (b i fl g))
    (hg : ∀ fl g ds S0, ds.length = n → G g ds S0 ≠ .no → ∃ i, fnOf td N.length (b i fl g) (.adr fl :: ds) S0 = G g ds S0) : HFn P w K mg base T k x n m G := by
  refine ⟨f, fd, ps, hm, F.kp, hb, hn, ?_⟩
  obtain ⟨oc, od, kV, doc, pm, an, cdv, ct, osl, rfl, lk, hcd⟩ := F.ex
  intro A outer s H fl g O S0 us vs ds Q E args hr e0 lp hbd rv hds rs so q
  obtain ⟨i, ei⟩ := hg fl g ds S0 hds fun z => by rw [z] at q; exact q
  rw [← ei] at q
  have hpl : ps.length ≤ N.length := by have := congrArg List.length S.pre; rw [List.length_take] at this; omega
  have soP : SOk K mg (T.plus O H) O H S0 := so.up TLe.plus ⟨so.inv, Lw.refl⟩
  have rs2 : Rps K mg O.cs (hide O H) (V.ref fl :: vs) (D.adr fl :: ds) := .cons (.adr fl) rs
  refine LamX.run_ofS (us := .ref fl :: us) (vs := .ref fl :: vs) lk hcd S hr e0 hbd (.cons rfl rv) (by rw [List.length_cons, rs.length, hds, hn]) fun hr' => ?_
  have dss := body i fl g cdv A outer s H E O rfl lp (fun pn xe => ⟨TLe.plus, fun _ _ h => h.2, fun _ _ _ _ J => J.base⟩) (cok_def S hr')
  refine ⟨_, dss.pss, (D.adr fl :: ds).map some ++ List.replicate (N.length - (D.adr fl :: ds).length) none, S0, O, renv_start rs2 (by rw [List.length_cons, hds]; omega), soP, ?_⟩
  have q : Po K mg (T.plus O H) (Rp K mg) (endF td S0.length (b i fl g ((D.adr fl :: ds).map some ++ List.replicate (N.length - (D.adr fl :: ds).length) none) S0)) O H Q E := Po.up TLe.plus q
  show PoS K mg (T.plus O H) (b i fl g ((D.adr fl :: ds).map some ++ List.replicate (N.length - (D.adr fl :: ds).length) none) S0) O H { nx := fun _ H' => Q .non H', rt := Q } (fun _ => E)
  cases eb : b i fl g ((D.adr fl :: ds).map some ++ List.replicate (N.length - (D.adr fl :: ds).length) none) S0 with
  | next env S' =>
    rw [eb] at q
    intro O' H' σ' l so' re
    unfold endF at q
    dsimp only at q
    split at q
    · exact q (O'.cut S0.length) H' .non (le_cut soP l) (sok_cut soP l so') .non
    · exact q O' H' .non l so' .non
  | ret d S' =>
    rw [eb] at q
    intro O' H' v l so' rv
    unfold endF at q
    dsimp only at q
    split at q
    · exact endT_ok soP l so' rv q
    · exact q O' H' v l so' rv
  | err c env S' =>
    rw [eb] at q
    exact fun O' H' σ' C l so' _ z => q O' H' C l so' z
  | brk env S' => rw [eb] at q; exact (show False from q).elim
  | cont env S' => rw [eb] at q; exact (show False from q).elim
  | no => rw [eb] at q; exact q
end
section
variable {X : Cx} {T : Tb} {E : XKs} {k j : Nat}
/-- x(lambda ..: body, es) -/
def eHof (n nn : Nat) (js : List Nat) (fb : BE) (G : (List D → M D) → List D → M D) (fs : BA) : BE := fun env => fs env >>= fun ds => if ds.length = n then G (fun as => fb (lamEv nn js env as)) ds else no
theorem sok_ext {K : PySem.W.Frag} {mg : Str → Option Value} {O : Ow} {H H' : Hp} {S : Store} (s : SOk K mg T O H S) (e : ExtN H H') (t : Tabs T.tabs H') : SOk K mg T O H' S := by
  have l : Le O H O H' := Le.ext e
  refine ⟨s.len, s.nd, fun n a c e1 e2 => ?_, t, T.mono l.w s.inv, fun q hq => ?_⟩
  · have := s.cell n a c e1 e2
    cases c with
    | lst ds =>
      obtain ⟨vs, z, t⟩ := this
      exact ⟨vs, e _ _ z (fun ps q => by cases q), Rps.le0 t l⟩
  · obtain ⟨h1, vs, h2⟩ := s.own q hq
    exact ⟨h1, vs, e _ _ h2 (fun ps q => by cases q)⟩
theorem code_hide {K : PySem.W.Frag} {mg : Str → Option Value} {O : Ow} {H : Hp} {S : Store} {c : Addr} {q : Str} (s : SOk K mg T O H S) (h : H c = some (CodeO c q)) : hide O H c = some (CodeO c q) := by
  refine hide_of ?_ h rfl
  rintro (m | m)
  · obtain ⟨n, hn, e⟩ := List.getElem_of_mem m
    obtain ⟨vs, z⟩ := s.at (show O.cs[n]? = some c by rw [List.getElem?_eq_getElem hn, e])
    rw [h] at z
    unfold CodeO at z
    cases z
  · obtain ⟨_, vs, z⟩ := s.own c m
    rw [h] at z
    unfold CodeO at z
    cases z
theorem de_hof {n : Nat} {G : (List D → M D) → List D → M D} {N ps fr : List Str} {js : List Nat} {x : Str} {params : Arguments} {body : Expr} {scope : Scope} {es : List Expr} {fb : BE} {fs : BA} {cc Pt : Addr} {p lpos pos : Pos} (F : HFn X.prog X.w X.K X.mg X.base T (k + 1) x n ps.length G) (c : Cok X E (k + 2)) (hN : X.stack = X.env :: X.outer)
    (TB : TabB X.base X.mg cc Pt) (hcode : X.env.code = .ref cc) (hmT : (Pt, X.env.qual ++ "<lambda>") ∈ T.tabs) (hu : ∀ p ∈ T.tabs, p.1 = Pt → p.2 = X.env.qual ++ "<lambda>") (Sn : NScope N ps fr scope)
    (hfree : ∀ y ∈ scope.names, y.2 = .free → X.env.scope.names.lookup y.1 = some .cell ∨ X.env.scope.names.lookup y.1 = some .free) (hfr : ∀ y ∈ fr, (y, NameKind.free) ∈ scope.names) (hjs : js.map (fun j => X.N[j]?) = fr.map some)
    (hbind : ∀ (q : Str) (cl : List (Str × Addr)) (pm cv ctv : Value) (us : List Value), us.length = ps.length → bindArgs (PySem.W.kla_fn "<lambda>" q params body scope cl pm cv ctv) ⟨us, []⟩ = pure (ps.zip us))
    (hb : ∀ (f c' : Addr) (A : Around) (outer : List Env) (s : Shared) (H : Hp) (E : XK), Cok (ncx (L2N.CX X.prog X.w) X.prog X.w X.K X.mg X.base N ⟨"<lambda>", X.env.qual ++ "<lambda>", params, [], scope, cloFrom X.env.cells scope.names [], c'⟩ f A outer s H E) (fun _ => E) k → DE (ncx (L2N.CX X.prog X.w) X.prog X.w X.K X.mg X.base N ⟨"<lambda>", X.env.qual ++ "<lambda>", params, [], scope, cloFrom X.env.cells scope.names [], c'⟩ f A outer s H E) T (fun _ => E) body fb)
    (ha : DA X T E es fs) (hdef : defaultsOf params X.env = ([], []) := by rfl) (hg : Gl X x := by rfl) (hdb : (x == ("__debug__" : Str)) = false := by decide)
    (h1 : starEach (.Lambda params body scope lpos :: es) X.env = (false, eval (.Lambda params body scope lpos) X.env) :: starEach es X.env := by rfl) (hpl : (backTo pos (starEach es X.env)).any (·.1) = false := by rfl) :
    DE X T E (.Call (.Name x p) (.Lambda params body scope lpos :: es) [] pos) (eHof n N.length js fb G fs) := by
  obtain ⟨fa, fd, psx, hm, hk, hbd, hps, run⟩ := F.ex
  refine ⟨⟨fun pins s σ H Q I h => ?_⟩⟩
  obtain ⟨env, S, O, re, so, q⟩ := h
  refine wpAny_Call_Name_kw (ld_glob I hg hm ?_ hdb)
  refine PySem.W.callWith_K (h₀ := X.base) I.ok.mod.kin hk ?_ h1 hpl
  rw [h1]
  refine Calls.spliced_cons (lam_make2 I TB hcode hmT hu so.tabs hdef (fun y hy e => (hfree y hy e).elim (fun z => I.ok.has _ (.inl z)) fun z => I.ok.has _ (.inr z)) fun f c' pm' ctv H1 s' I1 eN T1 hf hfn hfr' hco => ?_)
  have l1 : Le O H O H1 := Le.ext eN
  have so1 : SOk X.K X.mg T O H1 S := sok_ext so eN T1
  have re1 := re.mono l1
  have hcH := code_hide so1 hco
  have nL : f ≠ X.env.locals := fun z => by
    obtain ⟨m, ⟨ob, es0, ep, ho, hd0, _⟩, _⟩ := I1.loc
    rw [← z, hf] at ho
    cases ho
    cases hd0
  have nS : f ∉ X.fs := fun z => hfr' (by rw [hN]; obtain ⟨e, he, q⟩ := List.mem_filterMap.mp z; exact List.mem_filterMap.mpr ⟨e, List.mem_cons_of_mem _ he, q⟩)
  have I2 : Inv X ((f, PySem.W.kla_obj "<lambda>" (X.env.qual ++ "<lambda>") params body scope (cloFrom X.env.cells scope.names []) pm' c' ctv) :: pins) σ H1 s' := I1.pins_of fun p hp => by
    rcases List.mem_cons.mp hp with e | hp
    · subst e
      exact ⟨hf, hfn, nL, nS, fun v z => by cases z⟩
    · exact I1.pin p (List.mem_append_right _ hp)
  refine thn (ha.pa.run pos _ s' σ H1 (fun vs H2 => ∃ ds S2 O2, Le O H1 O2 H2 ∧ Rps X.K X.mg O2.cs (hide O2 H2) vs ds ∧ SOk X.K X.mg T O2 H2 S2 ∧ Po X.K X.mg T (Rp X.K X.mg) ((if ds.length = n then G (fun as => fb (lamEv N.length js env as)) ds else no : M D) S2) O2 H2 Q (E σ)) I2 ⟨env, S, O, re1, so1, Po.bind (Po.le q l1) fun ds S2 O2 H2 xs l2 s2 r2 q2 => ⟨ds, S2, O2, l2, r2, s2, q2⟩⟩) fun us s2 ⟨vs, H2, I3, rv, ds, S2, O2, l2, rs, so2, q2⟩ => ⟨I3.kIn, ?_⟩
  by_cases hn : ds.length = n
  · rw [if_pos hn] at q2
    have P1 := I3.pin (f, _) (List.mem_append_right _ List.mem_cons_self)
    have I4 : Inv X pins σ H2 s2 := I3.pins_of fun p hp => I3.pin p (List.mem_append_right _ (List.mem_cons_of_mem _ hp))
    have lp := lam_p (T := T) (k := k) (fb := fb) I4 (re1.mono l2) (Caps.made I4.ok hfree hfr hjs) P1.1 P1.2.1 hfr' (l2.same _ _ hcH) Sn (hbind _ _ _ _ _) (fun A outer s H E hc => hb f c' A outer s H E hc)
    have b := hbd s2 (.ref f :: us) I3.kIn (by rw [List.append_nil, List.length_cons, ← rv.length, rs.length, hn, hps])
    rw [List.append_nil] at b
    refine wpAny_call (codeAny_mono (run X.A X.stack s2 H2 f _ O2 S2 us vs ds Q (E σ) ⟨.ref f :: us, []⟩ c.room I4.env0 lp b rv hn rs so2 q2) fun r s3 hq => ?_)
    cases r with
    | error e => exact c.pass σ pins H2 s2 e s3 I4 hq
    | ok fl =>
      cases fl with
      | ret u => exact I4.after hq
      | next => exact False.elim hq
      | brk => exact False.elim hq
      | cont => exact False.elim hq
  · rw [if_neg hn] at q2
    exact q2.elim
end
end Z
end
section
set_option maxHeartbeats 4000000
/-! Chains of comparisons, sorted ints, a tuple backwards, a def out of a variable, powers, sequences times a number. -/
namespace Z
open PySem PySem.Spec PyProof.Rows L2

section
variable {X : Cx} {T : Tb} {E : XKs} {k j : Nat}
/-! ### a < b < c -/
def chn (f3 : BE) (g' : D → D → M D) (b : D) (env : Ev) : D → M D
  | .bool true => f3 env >>= fun c => g' b c
  | .bool false => pure (.bool false)
  | _ => no
def eChain (g g' : D → D → M D) (f1 f2 f3 : BE) : BE := fun env => f1 env >>= fun a => f2 env >>= fun b => g a b >>= fun z => chn f3 g' b env z
theorem t_chain {r r' : R2} {g g' : D → D → M D} {f1 f2 f3 : BE} (h : Op2 X T r g) (h' : Op2 X T r' g') : ∀ σ H Q, tD X.K X.mg T E (eChain g g' f1 f2 f3) σ H Q → tChain r r' (tD X.K X.mg T E f1) (tD X.K X.mg T E f2) (tD X.K X.mg T E f3) σ H Q := fun σ H Q ⟨env, S, O, re, so, q⟩ =>
  ⟨env, S, O, re, so, Po.bind q fun a S1 O1 H1 x l s1 r1 q1 => ⟨env, S1, O1, re.mono l, s1, Po.bind q1 fun b S2 O2 H2 y l2 s2 r2 q2 =>
    h O2 H2 S2 x y a b _ _ s2 (r1.le l2) r2 (Po.bind q2 fun z S3 O3 H3 v l3 s3 r3 q3 => by
      unfold chn at q3
      split at q3
      · cases r3
        refine ⟨true, rfl, ?_⟩
        rw [if_pos rfl]
        exact ⟨env, S3, O3, (re.mono l).mono (l2.trans l3), s3, Po.bind q3 fun c S4 O4 H4 w l4 s4 r4 q4 => h' O4 H4 S4 y w b c Q _ s4 (r2.le (l3.trans l4)) r4 q4⟩
      · cases r3
        refine ⟨false, rfl, ?_⟩
        rw [if_neg (by decide)]
        exact q3 O3 H3 _ Le.refl s3 (.bl false)
      · exact q3.elim)⟩⟩
theorem de_chain {op op' : CmpOp} {r r' : R2} {g g' : D → D → M D} {a b c : Expr} {f1 f2 f3 : BE} {pos : Pos} (ho : OpR X (compareOp op) r) (ho' : OpR X (compareOp op') r') (h : Op2 X T r g) (h' : Op2 X T r' g') (ha : DE X T E a f1) (hb : DE X T E b f2) (hc : DE X T E c f3)
    (hm : lastMarks [op, op'] [b, c] = false := by with_unfolding_all rfl) : DE X T E (.Compare a [op, op'] [b, c] pos) (eChain g g' f1 f2 f3) :=
  ⟨(pe_chain ho ho' ha.pe hb.pe hc.pe hm).monoZ (t_chain h h')⟩
theorem dt_chain {op op' : CmpOp} {r r' : R2} {g g' : D → D → M D} {a b c : Expr} {f1 f2 f3 : BE} {pos : Pos} (ho : OpR X (compareOp op) r) (ho' : OpR X (compareOp op') r') (h : Op2 X T r g) (h' : Op2 X T r' g') (ha : DE X T E a f1) (hb : DE X T E b f2) (hc : DE X T E c f3)
    (hm : lastMarks [op, op'] [b, c] = false := by with_unfolding_all rfl) : DT X T E (.Compare a [op, op'] [b, c] pos) (tB1 (eChain g g' f1 f2 f3)) :=
  ⟨(pt_chain ho ho' ha.pe hb.pe hc.pe hm).monoZ fun σ H Q ⟨env, S, O, re, so, q⟩ => t_chain h h' σ H _ ⟨env, S, O, re, so, Po.bind q fun a S1 O1 H1 x l s1 r1 q1 => by
    cases r1 with
    | bl b => exact ⟨b, rfl, q1 O1 H1 b Le.refl s1 rfl⟩
    | _ => exact q1.elim⟩⟩

/-! ### powers; sequences times a number -/
def gPow (a b : D) : M D := match a, b with
  | .int i, .int j => if 0 ≤ j ∧ j ≤ 1000000 ∧ i.natAbs < 2 ^ 64 then pure (.int (i ^ j.toNat)) else no
  | _, _ => no
theorem s_pow : OpS X T (rI CPow fun i j => .int (i ^ j.toNat)) gPow := fun O H S x y a b Q E so sa sb q => by
  unfold gPow at q
  split at q
  · rename_i i j
    split at q
    · rename_i h
      obtain rfl := sa.int
      obtain rfl := sb.int
      exact ⟨i, j, rfl, rfl, h, q O H _ Le.refl so (.int _)⟩
    · exact q.elim
  · exact q.elim
theorem rep_rps {K : PySem.W.Frag} {mg : Str → Option Value} {O : List Addr} {G : Hp} {ds : List D} {vs : List V} (t : Rps K mg O G vs ds) : ∀ n : Nat, Rps K mg O G (List.replicate n vs).flatten (List.replicate n ds).flatten
  | 0 => .nil
  | n + 1 => by
    rw [List.replicate_succ, List.replicate_succ, List.flatten_cons, List.flatten_cons]
    exact t.app (rep_rps t n)
def gRep (a b : D) : M D := match a, b with
  | .tuple xs, .int k => if xs ≠ [] ∧ 2 ≤ k ∧ k ≤ 1000 ∧ xs.length ≤ 1000 then pure (.tuple (List.replicate k.toNat xs).flatten) else no
  | .list xs, .int k => if -1000 ≤ k ∧ k ≤ 1000 ∧ xs.length ≤ 1000 then pure (.list (List.replicate k.toNat xs).flatten) else no
  | _, _ => no
theorem op_rep2 : OpR X (binaryOp .Mult) (fun x y H Q => rRepT X.K x y H Q ∨ rRep x y H Q) := OpR.or op_repT op_rep
theorem s_rep : OpS X T (fun x y H Q => rRepT X.K x y H Q ∨ rRep x y H Q) gRep := fun O H S x y a b Q E so sa sb q => by
  unfold gRep at q
  split at q
  · rename_i xs i
    split at q
    · rename_i h
      obtain rfl := sb.int
      obtain ⟨p, vs, rfl, h1, t, _⟩ := sa.tuple
      exact .inl ⟨p, i, vs, rfl, rfl, h1, fun z => h.1 (by have := t.length; rw [z] at this; exact List.length_eq_zero_iff.mp this.symm), h.2.1, h.2.2.1, by rw [t.length]; exact h.2.2.2, new_tup so (rep_rps t _) q⟩
    · exact q.elim
  · rename_i xs i
    split at q
    · rename_i h
      obtain rfl := sb.int
      obtain ⟨p, vs, rfl, h1, t⟩ := sa.list
      refine .inr ⟨p, i, vs, rfl, rfl, h1, by omega, by omega, ?_, new_lst so (rep_rps t _) q⟩
      have h3 : vs.length ≤ 1000 := by rw [t.length]; exact h.2.2
      have h4 : i.toNat ≤ 1000 := by omega
      have := Nat.mul_le_mul h3 h4
      rw [sizeLine_eq]
      omega
    · exact q.elim
  · exact q.elim

/-! ### sorted ints -/
def intsD : List D → Option (List Int)
  | [] => some []
  | .int b :: xs => (intsD xs).map (b :: ·)
  | _ => none
theorem intsD_rp {K : PySem.W.Frag} {mg : Str → Option Value} {O : List Addr} {G : Hp} : ∀ {ds : List D} {vs : List V} {bs : List Int}, Rps K mg O G vs ds → intsD ds = some bs → vs = bs.map V.int
  | _, _, _, .nil, e => by cases e; rfl
  | _, _, _, .cons (d := d) r t, e => by
    cases r with
    | int b =>
      rw [intsD] at e
      obtain ⟨bs', h, rfl⟩ := Option.map_eq_some_iff.mp e
      rw [intsD_rp t h]
      rfl
    | _ => simp [intsD] at e
theorem rps_int {K : PySem.W.Frag} {mg : Str → Option Value} {O : List Addr} {G : Hp} : ∀ ys : List Int, Rps K mg O G (ys.map V.int) (ys.map D.int)
  | [] => .nil
  | y :: ys => .cons (.int y) (rps_int ys)
def sortI (ns : List Int) : List Int := ns.mergeSort fun x y => decide (x ≤ y)
theorem sortI_perm (ns : List Int) : (sortI ns).Perm ns := List.mergeSort_perm _ _
theorem sortI_sorted (ns : List Int) : (sortI ns).Pairwise (· ≤ ·) := by
  have := List.pairwise_mergeSort (le := fun (x y : Int) => decide (x ≤ y)) (fun x y z h1 h2 => by simp at *; omega) (fun x y => by simp; omega) ns
  simpa [sortI] using this
theorem sortI_uniq {a ns : List Int} (h : a.Perm ns) (s : a.Pairwise (· ≤ ·)) : a = sortI ns :=
  (h.trans (sortI_perm ns).symm).eq_of_pairwise (fun x y _ _ p q => by omega) s (sortI_sorted ns)
def gSorted (a : D) : M D := match a with
  | .list ds => ofO ((intsD ds).map fun ns => .list ((sortI ns).map .int))
  | _ => no
theorem d_sorted : CallD X T (rSortedI X.K) (c1 gSorted) := cd1 fun O H S x a Q E so sa q => by
  unfold gSorted at q
  split at q
  · obtain ⟨d, h, q1⟩ := po_ofO q
    obtain ⟨ns, hb, rfl⟩ := Option.map_eq_some_iff.mp h
    obtain ⟨p, vs, rfl, h1, t⟩ := sa.list
    have e := intsD_rp t hb
    subst e
    refine ⟨_, _, rfl, .inl (.inl h1), fun ns' l hp hs hl => ?_⟩
    obtain rfl := sortI_uniq hp hs
    exact new_lst so (rps_int _) q1 l hl
  · exact q.elim
end
end Z
end
section
set_option maxHeartbeats 4000000
/-! A tuple backwards; a def out of a variable. -/
namespace Z
open PySem PySem.Spec PyProof.Rows L2

section
variable {prog : Program} {w : World} {A : Around} {E : Value → Shared → Prop} {s : Shared}
theorem applied_back {sl : Addr} {vl vu vs : Value} {n : Nat} {Q : Int × Int × Nat → Shared → Prop} (hs : s.heap.IsSliceOf sl vl vu vs) (pl : IsPart vl none) (pu : IsPart vu none) (ps : IsPart vs (some (-1)))
    (h : Q ((n : Int) - 1, -1, n) s) : wpAny (model prog w) A (Builtin.Slice.sliceApplied (.ref sl) (pure (n : Int))) Q E s := by
  obtain ⟨os, hos, hcs, hds⟩ := id hs
  unfold Builtin.Slice.sliceApplied Builtin.Slice.sliceFields
  refine wpAny_bind (wpAny_bind (wpAny_field hos hds (x := vl) rfl (wpAny_bind (wpAny_field hos hds (x := vu) rfl (wpAny_bind (wpAny_field hos hds (x := vs) rfl (wpAny_pure ?_)))))))
  refine wpAny_bind (HT.slicePart_ ps ?_)
  show wpAny _ _ (if ((-1 : Int) == 0) = true then _ else _) _ _ s
  rw [if_neg (by decide)]
  refine wpAny_bind (HT.slicePart_ pl (wpAny_bind (HT.slicePart_ pu (wpAny_bind (wpAny_pure ?_)))))
  have e1 : Builtin.Slice.sliceAdjust none none (-1) (n : Int) = ((n : Int) - 1, -1) := by
    unfold Builtin.Slice.sliceAdjust
    simp
  have e2 : Builtin.Slice.slicePlaces ((n : Int) - 1) (-1) (-1) = n := by
    unfold Builtin.Slice.slicePlaces
    simp
    omega
  show wpAny _ _ (match Builtin.Slice.sliceAdjust none none (-1) (n : Int) with | (lo, hi) => pure (lo, (-1 : Int), Builtin.Slice.slicePlaces lo hi (-1))) _ _ s
  rw [e1]
  show wpAny _ _ (pure ((n : Int) - 1, (-1 : Int), Builtin.Slice.slicePlaces ((n : Int) - 1) (-1) (-1))) _ _ s
  rw [e2]
  exact wpAny_pure h
theorem fm_some {α β : Type} {f : α → Option β} {g : α → β} : ∀ {l : List α}, (∀ a ∈ l, f a = some (g a)) → l.filterMap f = l.map g
  | [], _ => rfl
  | a :: l, h => by
    rw [List.filterMap_cons, h a (by simp), List.map_cons, fm_some fun b hb => h b (List.mem_cons_of_mem _ hb)]
theorem pick_back (xs : Array Value) : ((List.range xs.size).filterMap fun (m : Nat) => xs[((xs.size : Int) - 1 + (m : Int) * (-1)).toNat]?).toArray = xs.toList.reverse.toArray := by
  congr 1
  have e : ∀ m ∈ List.range xs.size, (fun (m : Nat) => xs[((xs.size : Int) - 1 + (m : Int) * (-1)).toNat]?) m = some ((fun m => xs.toList.reverse.getD m .none) m) := fun m hm => by
    have hm := List.mem_range.mp hm
    have e1 : ((xs.size : Int) - 1 + (m : Int) * (-1)).toNat = xs.size - 1 - m := by omega
    simp only [e1]
    rw [List.getD_eq_getElem?_getD, List.getElem?_reverse (by simpa using hm), Array.getElem?_toList, Array.length_toList]
    rw [Array.getElem?_eq_getElem (by omega)]
    rfl
  rw [fm_some e]
  apply List.ext_getElem?
  intro i
  by_cases hi : i < xs.size
  · rw [List.getElem?_map, List.getElem?_range hi]
    simp only [Option.map_some]
    rw [List.getD_eq_getElem?_getD, List.getElem?_eq_getElem (by simpa using hi)]
    rfl
  · rw [List.getElem?_eq_none (by simpa using hi), List.getElem?_eq_none (by simpa using hi)]
theorem getItem_tuple_back {t sl : Addr} {items : Array Value} {vl vu vs : Value} {Q : Value → Shared → Prop} (ht : IsTup s.heap t items) (hs : s.heap.IsSliceOf sl vl vu vs) (pl : IsPart vl none) (pu : IsPart vu none) (ps : IsPart vs (some (-1)))
    (h : Q (.ref s.heap.objs.size) { s with heap := s.heap.push { cls := .type "tuple", data := .seq items.toList.reverse.toArray } }) (hsz : items.size ≤ sizeLine) : wpAny (model prog w) A (getItem (.ref t) (.ref sl)) Q E s := by
  have htake : sizeOk (.seq items.toList.reverse.toArray) := by
    show items.toList.reverse.toArray.size ≤ sizeLine
    simpa using hsz
  obtain ⟨os, hos, hcs, hds⟩ := id hs
  have hTs : s.TypeIs (.ref sl) "slice" := ⟨os, hos, hcs⟩
  unfold getItem
  try with_reducible refine wpAny_holding ?_
  first | refine wpAny_bind (wpAny_pure ?_) | skip
  refine wpAny_bind (wpAny_sequenceKey ht.typeIs (by decide) ?_)
  refine wpAny_bind (wpAny_callSpecial?_slot (name := Str.ofString "__getitem__") ht.typeIs PyProof.Rows.slot_tuple_getitem
    (wpAny_call_entry PyProof.Rows.slot_tuple_getitem ht.typeIs entry_tuple_getitem ?_ (args_tuple_getitem _ _)))
  show wpAny _ _ (Builtin.Tuple.tupleItemsOf (.ref t) >>= _) _ _ s
  refine wpAny_bind (tupleItemsOf_ ht ?_)
  refine wpAny_bind (wpAny_typeOf hTs ?_)
  rw [if_pos (by decide)]
  refine wpAny_bind (applied_back hs pl pu ps ?_)
  have hno : ¬ ((((items.size : Int) - 1) == 0 && (-1 : Int) == 1 && items.size == items.size) = true) := by
    intro q
    rw [Bool.and_eq_true, Bool.and_eq_true] at q
    exact absurd q.1.2 (by decide)
  show wpAny _ _ (if ((((items.size : Int) - 1) == 0 && (-1 : Int) == 1 && items.size == items.size) = true) then _ else _) _ _ s
  rw [if_neg hno, pick_back]
  first
    | exact wpAny_bind (m := Builtin.Tuple.tupleExact _) (wpAny_newObj_type (wpAny_pure ⟨_, rfl, wpAny_pure h⟩) htake)
    | exact wpAny_bind (m := Builtin.Tuple.tupleExact _) (wpAny_newObj_type (wpAny_bind (wpAny_pure (wpAny_pure ⟨_, rfl, wpAny_pure h⟩))) htake)
    | exact wpAny_bind (wpAny_bind (m := Builtin.Tuple.tupleExact _) (wpAny_newObj_type (wpAny_pure (wpAny_pure ⟨_, rfl, wpAny_pure h⟩)) htake))
    | exact wpAny_bind (wpAny_bind (m := Builtin.Tuple.tupleExact _) (wpAny_newObj_type (wpAny_pure ⟨_, rfl, wpAny_pure h⟩) htake))
end
section
variable {X : Cx} {T : Tb} {E : XKs} {k j : Nat}
def tRevT (K : PySem.W.Frag) (te : TE) : TE := fun σ H Q => te σ H fun x H1 => ∃ a xs, x = .ref a ∧ SqT K H1 a xs ∧ ∀ p, H1 p = none → Q (.ref p) (upd H1 p (.tup xs.reverse))
theorem pe_revT {e : Expr} {te : TE} {k : Nat} {p1 p2 p3 pos : Pos} (he : PE X e te) : PE X (.Subscript e (.Slice none none (some (.UnaryOp .USub (.Constant (.int 1) k p1) p2)) p3) pos) (tRevT X.K te) := by
  refine ⟨fun pins s σ H Q I h => ?_⟩
  refine Subscript_ (thn (he.run pins s σ H _ I h) fun v s1 ⟨x, H1, I1, r1, a, xs, ex, hx, q⟩ => ?_)
  subst ex
  cases r1
  have hst : PO X (some (.UnaryOp .USub (.Constant (.int 1) k p1) p2)) (tPart (tUn (rU fun i => .int (-i)) (tC (.int 1)))) := po_some (pe_un un_neg pe_int)
  refine wpAny_Slice (thn (po_none.run pins s1 σ H1 (fun o H2 => o = none ∧ H2 = H1) I1 ⟨rfl, rfl⟩) fun vl s2 ⟨l, H2, I2, pl, el, e2⟩ => ?_)
  subst el e2
  refine thn (po_none.run pins s2 σ H2 (fun o H3 => o = none ∧ H3 = H2) I2 ⟨rfl, rfl⟩) fun vu s3 ⟨u, H3, I3, pu, eu, e3⟩ => ?_
  subst eu e3
  refine thn (hst.run pins s3 σ H3 (fun o H4 => o = some (-1) ∧ H4 = H3) I3 ⟨1, rfl, -1, rfl, rfl, rfl⟩) fun vs s4 ⟨o, H4, I4, ps, eo, e4⟩ => ?_
  subst eo e4
  have I5 : Inv X pins σ H4 { s4 with heap := s4.heap.push { cls := .type "slice", data := .fields #[vl, vu, vs] } } := I4.kept (t' := s4.toks) fun b ob q => Heap.get?_push_of_some _ q
  obtain ⟨its, r, ht, hz⟩ := I5.tuple hx
  have hlen := r.length
  show wpAny (model X.prog X.w) X.A (subscriptTail e (.Slice none none (some (.UnaryOp .USub (.Constant (.int 1) k p1) p2)) p3) (.ref a) (.ref s4.heap.objs.size)) (EP X pins σ Q) X.xe { s4 with heap := s4.heap.push { cls := .type "slice", data := .fields #[vl, vu, vs] } }
  refine tail_any (ops := [.ref a, .ref s4.heap.objs.size]) ht.typeIs (PyProof.Rows.slot_tuple_getitem.lookup) ?_ (by with_unfolding_all rfl)
  refine getItem_tuple_back ht (Heap.IsSliceOf.new _ vl vu vs) pl pu ps ?_ (by rw [List.size_toArray]; omega)
  refine ⟨.ref _, _, I5.laid (t' := s4.toks) (o := .tup xs.reverse) (fun b ob q => Heap.get?_push_of_some _ q) (Nat.le_refl _) ?_, rfl, q _ (I5.hok.fresh (Nat.le_refl _))⟩
  exact ⟨by rw [List.length_reverse]; exact hz, _, r.reverse, IsTup.new _ _⟩
def gRevT (a : D) : M D := match a with
  | .tuple xs => pure (.tuple xs.reverse)
  | _ => no
theorem de_revT {e : Expr} {f : BE} {k : Nat} {p1 p2 p3 pos : Pos} (he : DE X T E e f) : DE X T E (.Subscript e (.Slice none none (some (.UnaryOp .USub (.Constant (.int 1) k p1) p2)) p3) pos) (e1 gRevT f) :=
  ⟨(pe_revT he.pe).monoZ fun σ H Q ⟨env, S, O, re, so, q⟩ => ⟨env, S, O, re, so, Po.bind q fun a S1 O1 H1 x l s1 r1 q1 => by
    unfold gRevT at q1
    cases r1 with
    | tup h t => exact ⟨_, _, rfl, st_le h, new_tup s1 t.rev q1⟩
    | _ => exact q1.elim⟩⟩

/-! ### a def out of a variable -/
abbrev FTab := List (Str × Nat × (List D → M D))
def look (t : FTab) (d : D) : M (Nat × (List D → M D)) := match d with
  | .fn x => ofO (t.lookup x)
  | _ => no
def eCallF (t : FTab) (v : BE) (fs : BA) : BE := fun env => v env >>= fun d => look t d >>= fun p => fs env >>= fun as => if as.length = p.1 then p.2 as else no
theorem de_callF {t : FTab} {a : Str} {v : BE} {e : Expr} {es : List Expr} {fs : BA} {p pos : Pos} (F : ∀ x n g, t.lookup x = some (n, g) → Fn X.prog X.w X.K X.mg X.base T j x n g) (c : Cok X E k) (hv : DE X T E (.Name a p) v) (ha : DA X T E (e :: es) fs) (hj : j ≤ k := by decide)
    (he : starEach (e :: es) X.env = (false, eval e X.env) :: starEach es X.env := by rfl) (hpl : (backTo pos (starEach es X.env)).any (·.1) = false := by rfl) :
    DE X T E (.Call (.Name a p) (e :: es) [] pos) (eCallF t v fs) := by
  refine ⟨⟨fun pins s σ H Q I h => ?_⟩⟩
  obtain ⟨env, S, O, re, so, q⟩ := h
  refine wpAny_Call_Name_kw (thn (hv.pe.run pins s σ H (fun x H1 => ∃ y n g fa, t.lookup y = some (n, g) ∧ X.mg y = some (.ref fa) ∧ x = .ref fa ∧ ∃ O1 S1, Le O H O1 H1 ∧ SOk X.K X.mg T O1 H1 S1 ∧ Po X.K X.mg T (Rp X.K X.mg) ((fs env >>= fun as => if as.length = n then g as else no) S1) O1 H1 Q (E σ)) I ⟨env, S, O, re, so, Po.bind q fun d S1 O1 H1 x l s1 r1 q1 => ?_⟩) fun u s1 ⟨x, H1, I1, r1, y, n, g, fa, hy, hm, ev, O1, S1, l, so1, q1⟩ => ?_)
  · unfold look at q1
    cases r1 with
    | fn hm =>
      rename_i fa y
      dsimp only at q1
      cases hy : t.lookup y with
      | none => rw [hy] at q1; exact q1.elim
      | some z =>
        obtain ⟨n, g⟩ := z
        rw [hy] at q1
        exact ⟨y, n, g, fa, hy, hm, rfl, O1, S1, l, s1, q1⟩
    | _ => exact q1.elim
  · subst ev
    obtain rfl : u = Value.ref fa := r1
    obtain ⟨fa', fd, ps, h1, h2, h3, h4, h5⟩ := (F y n g hy).ex
    obtain rfl : fa' = fa := by rw [hm] at h1; cases h1; rfl
    refine PySem.W.callWith_K (h₀ := X.base) I.ok.mod.kin h2 (thn (ha.pa.run pos pins s1 σ H1 (fun vs H2 => ∃ as S2 O2, Rps X.K X.mg O2.cs (hide O2 H2) vs as ∧ SOk X.K X.mg T O2 H2 S2 ∧ Po X.K X.mg T (Rp X.K X.mg) ((if as.length = n then g as else no : M D) S2) O2 H2 Q (E σ)) I1 ⟨env, S1, O1, re.mono l, so1, Po.bind q1 fun as S2 O2 H2 xs l2 s2 r2 q2 => ⟨as, S2, O2, r2, s2, q2⟩⟩) fun us s2 ⟨vs, H2, I2, r2, as, S2, O2, rs, so2, q2⟩ => ⟨I2.kIn, ?_⟩) he hpl
    by_cases hn : as.length = n
    · rw [if_pos hn] at q2
      have b := h3 s2 us I2.kIn (by rw [List.append_nil, ← r2.length, rs.length, hn, h4])
      rw [List.append_nil] at b
      refine wpAny_call (codeAny_mono (h5.run X.A X.stack s2 H2 ⟨us, []⟩ us vs Q (E σ) (c.room.mono hj) I2.env0 b r2 ⟨as, S2, O2, hn, rs, so2, q2⟩) fun r s' hq => ?_)
      cases r with
      | error e => exact c.pass σ pins H2 s2 e s' I2 hq
      | ok fl =>
        cases fl with
        | ret u => exact I2.after hq
        | next => exact False.elim hq
        | brk => exact False.elim hq
        | cont => exact False.elim hq
    · rw [if_neg hn] at q2
      exact q2.elim
end
end Z
end
section
set_option maxHeartbeats 4000000
/-! What the printed derivations lean on. -/
namespace Z
open PySem PySem.Spec PyProof.Rows L2

/-- a def of the module, all its parameters given -/
structure DefOk (K : PySem.W.Frag) (mg : Str → Option Value) (x : Str) (st : Stmt) (ps : List Str) : Prop where
  ex : ∃ f fd, L2.Fun K x x st f fd ∧ mg x = some (.ref f) ∧ Binds K fd ps []
section
variable {X : Cx} {T : Tb} {E : XKs} {k j : Nat}
theorem de_fnF {x : Str} {n : Nat} {g : List D → M D} {pos : Pos} (F : Fn X.prog X.w X.K X.mg X.base T j x n g) (hg : Gl X x := by rfl) (hd : (x == ("__debug__" : Str)) = false := by decide) : DE X T E (.Name x pos) (eC (.fn x)) := by
  obtain ⟨f, fd, ps, h1, _⟩ := F.ex
  exact de_fn hg h1 hd
theorem de_glI {x : Str} {i : Int} {pos : Pos} (hm : ∃ t, X.mg x = some (.int i t)) (hg : Gl X x := by rfl) (hd : (x == ("__debug__" : Str)) = false := by decide) : DE X T E (.Name x pos) (eC (.int i)) := by
  obtain ⟨t, h⟩ := hm
  exact de_const (pe_glob (v := .int i) hg h ⟨t, rfl⟩ hd) fun _ _ => .int i
/-- a, b, c = x, y, z of plain locals -/
def sPar3 (i j l : Nat) (f g h : BE) : BS := fun env S => thenS (f env S) env fun a S1 => thenS (g env S1) env fun b S2 => thenS (h env S2) env fun c S3 => .next (((env.set i (some a)).set j (some b)).set l (some c)) S3
theorem ds_par3 (i j l : Nat) {x y z : Str} {a b c : Expr} {f g h : BE} {px py pz pt pos : Pos} {kt k2 pt2} (hc : X.calm = true) (hN : X.N.Nodup) (ha : DE X T E a f) (hb : DE X T E b g) (hcc : DE X T E c h)
    (hi : X.N[i]? = some x := by rfl) (hj : X.N[j]? = some y := by rfl) (hl : X.N[l]? = some z := by rfl) (hij : i ≠ j := by decide) (hil : i ≠ l := by decide) (hjl : j ≠ l := by decide)
    (hx : X.env.scope.names.lookup x = some .local := by rfl) (hy : X.env.scope.names.lookup y = some .local := by rfl) (hz : X.env.scope.names.lookup z = some .local := by rfl)
    (hw : swappedStores [.Tuple [.Name x px, .Name y py, .Name z pz] kt pt] (.Tuple [a, b, c] k2 pt2) X.env = pure (some [x, y, z]) := by rfl)
    (hs : swapsWithSole [.Tuple [.Name x px, .Name y py, .Name z pz] kt pt] (.Tuple [a, b, c] k2 pt2) pos.line X.env = pure false := by rfl)
    (h1 : starEach [a, b, c] X.env = (false, eval a X.env) :: starEach [b, c] X.env := by rfl) (h2 : starEach [b, c] X.env = (false, eval b X.env) :: starEach [c] X.env := by rfl) (h3 : starEach [c] X.env = [(false, eval c X.env)] := by rfl) :
    DS X T E (.Assign [.Tuple [.Name x px, .Name y py, .Name z pz] kt pt] (.Tuple [a, b, c] k2 pt2) pos) (sPar3 i j l f g h) :=
  ⟨(ps_par3 hc hN hi hj hl hij hil hjl hx hy hz (da_cons ha (da_cons hb (da_cons hcc da_nil (by rw [h3]; rfl)) h2) h1).pa hw hs).monoZ fun Dn σ H ⟨env, S, O, re, so, q⟩ => ⟨env, S, O, re, so, by
    unfold sPar3 at q
    show Po _ _ _ _ ((f env >>= fun a => (g env >>= fun b => (h env >>= fun c => pure [c]) >>= fun as => pure (b :: as)) >>= fun as => pure (a :: as)) S) O H _ _
    rw [bd_ap]
    cases e1 : f env S with
    | err c S1 =>
      rw [e1] at q
      exact fun O1 H1 C l s e => q O1 H1 σ C l s (re.mono l) e
    | no => rw [e1] at q; exact q
    | ok a S1 =>
      rw [e1] at q
      dsimp only [thenS] at q ⊢
      rw [bd_ap, bd_ap]
      cases e2 : g env S1 with
      | err c S2 =>
        rw [e2] at q
        exact fun O1 H1 C l s e => q O1 H1 σ C l s (re.mono l) e
      | no => rw [e2] at q; exact q
      | ok b S2 =>
        rw [e2] at q
        dsimp only [thenS] at q ⊢
        rw [bd_ap, bd_ap]
        cases e3 : h env S2 with
        | err c S2 =>
          rw [e3] at q
          exact fun O1 H1 C l s e => q O1 H1 σ C l s (re.mono l) e
        | no => rw [e3] at q; exact q
        | ok c S3 =>
          rw [e3] at q
          dsimp only [pure_ap] at q ⊢
          intro O1 H1 vs l s r
          cases r with
          | cons r1 r2 =>
            cases r2 with
            | cons r2 r3 =>
              cases r3 with
              | cons r3 r4 =>
                cases r4
                exact ⟨_, _, _, rfl, q O1 H1 _ l s ((((re.mono l).set r1).set r2).set r3)⟩⟩⟩
end
/-- the same; its code object told, too -/
structure DefC (K : PySem.W.Frag) (mg : Str → Option Value) (x : Str) (st : Stmt) (ps : List Str) (cc : Addr) : Prop where
  ex : ∃ f fd, L2.Fun K x x st f fd ∧ mg x = some (.ref f) ∧ Binds K fd ps [] ∧ fd.code = .ref cc
theorem roomH_mark {A : Around} {k : Nat} {a : Addr} (r : Room k A) : L2H.RoomH k (A.mark (some (.ref a))) := ⟨r.dp, r.un⟩
/-- what is answered for an error of the class c -/
def wdE (c : Str) : Str :=
  if c = "InvalidHall" then "hall" else if c = "InvalidRay" then "ray" else if c = "InvalidWord" then "word" else if c = "InvalidWall" then "wall" else if c = "InvalidPaper" then "paper" else
  if c = "InvalidFacts" then "facts" else if c = "InvalidDeed" then "deed" else if c = "InvalidText" then "text" else if c = "Unlike" then "unlike" else "undo"
/-- the text of the error that a call raises -/
def G_err (cs : List Str) (h0 : D → D) (h : Str → D) (g : List D → M D) (_ : List D) : M D := fun S => match g [] S with
  | .ok d S' => .ok (h0 d) S'
  | .err c S' => if c ∈ cs then .ok (h c) S' else .no
  | .no => .no
theorem fn_zero {P : Program} {w : World} {K : PySem.W.Frag} {mg : Str → Option Value} {base : Heap} {T : Tb} {k : Nat} {x : Str} {st : Stmt} {N ps : List Str} (h : ∃ f fd, L2.Fun K x x st f fd ∧ mg x = some (.ref f) ∧ Binds K fd ps []) (S : FnScope N ps (defScope st)) : Fn P w K mg base T k x ps.length (fun _ => no) := by
  obtain ⟨f, fd, F, hm, hb⟩ := h
  refine ⟨f, fd, ps, hm, F.kp, hb, rfl, ?_⟩
  constructor
  · intro vs H Q E h
    obtain ⟨ds, S, O, e, r, _, _⟩ := h
    rw [r.length, e]
  · intros
    rename_i h
    obtain ⟨_, _, _, _, _, _, q⟩ := h
    exact q.elim
theorem bt_len : bootBuiltins "len" = some (.builtin "len") := by decide +kernel
theorem bt_abs : bootBuiltins "abs" = some (.builtin "abs") := by decide +kernel
theorem bt_max : bootBuiltins "max" = some (.builtin "max") := by decide +kernel
theorem bt_min : bootBuiltins "min" = some (.builtin "min") := by decide +kernel
theorem bt_all : bootBuiltins "all" = some (.builtin "all") := by decide +kernel
theorem bt_any : bootBuiltins "any" = some (.builtin "any") := by decide +kernel
theorem bt_sorted : bootBuiltins "sorted" = some (.builtin "sorted") := by decide +kernel
theorem bt_isinstance : bootBuiltins "isinstance" = some (.builtin "isinstance") := by decide +kernel
theorem bt_int : bootBuiltins "int" = some (.type "int") := by decide +kernel
theorem bt_bool : bootBuiltins "bool" = some (.type "bool") := by decide +kernel
theorem bt_str : bootBuiltins "str" = some (.type "str") := by decide +kernel
theorem bt_list : bootBuiltins "list" = some (.type "list") := by decide +kernel
theorem bt_tuple : bootBuiltins "tuple" = some (.type "tuple") := by decide +kernel
theorem bt_ValueError : bootBuiltins "ValueError" = some (.type "ValueError") := by decide +kernel
end Z
end
section
set_option maxHeartbeats 4000000
/-! The facts out of the head; the law's end. -/
namespace Z
open PySem PySem.Spec PyProof.Rows L2

section
variable {K : PySem.W.Frag} {mg : Str → Option Value} {x : Str} {st : Stmt} {ps : List Str} {f : Addr} {fd : FuncData}
theorem fun_of (F : FunD K x x (defArgs st) (defBody st) (defScope st) [] [] f fd) : L2.Fun K x x st f fd := by
  obtain ⟨oc, od, dV, kV, doc, pm, an, cdv, ct, osl, rfl, lk, hcd, hD, hK⟩ := F.ex
  rcases hD with ⟨_, rfl⟩ | ⟨e, _⟩
  · exact ⟨⟨oc, od, kV, doc, pm, an, cdv, ct, osl, rfl, lk, hcd⟩, F.kp⟩
  · exact absurd rfl e
abbrev BindEq (x : Str) (st : Stmt) (ps : List Str) : Prop := ∀ (kV doc pm : Value) (an : Option Addr) (cdv ct : Value) (us : List Value), us.length = ps.length → bindArgs (PySem.W.fnOf x x (defArgs st) (defBody st) (defScope st) .none kV doc pm an cdv ct) ⟨us, []⟩ = pure (ps.zip us)
theorem defok_of (hm : mg x = some (.ref f)) (F : ∃ fd, FunD K x x (defArgs st) (defBody st) (defScope st) [] [] f fd) (hb : BindEq x st ps) : DefOk K mg x st ps := by
  obtain ⟨fd, F⟩ := F
  exact ⟨f, fd, fun_of F, hm, F.bindsN hb⟩
/-! ### the own errors -/
def excCB (K : PySem.W.Frag) (D : Addr) : Bool :=
  decide (PySem.W.findIn K (.ref D) "__getattribute__" = some (some (.builtin "BaseException.__getattribute__"))) && decide (PySem.W.findIn K (.ref D) "__getattr__" = some none) && decide (PySem.W.subIn K (.ref D) (.type "BaseException") = some true) && PySem.W.hasDictIn K D &&
  decide (PySem.W.findIn K (.ref D) "__class__" = some (some (.builtin "object.__class__"))) && decide (PySem.W.specialIn K (.builtin "object.__class__") "__get__" = some (some (.builtin "getset_descriptor.__get__"))) && decide (PySem.W.takesIn K (.builtin "object.__class__") = some true) && decide (PySem.W.mroIn K D (.type "object") = some true)
theorem excC_of {D : Addr} (h : excCB K D = true) : ExcC K D := by
  unfold excCB at h
  simp only [Bool.and_eq_true, decide_eq_true_eq] at h
  obtain ⟨⟨⟨⟨⟨⟨⟨h1, h2⟩, h3⟩, h4⟩, h5⟩, h6⟩, h7⟩, h8⟩ := h
  exact ⟨h1, h2, h3, h4, h5, h6, h7, h8⟩
def errsB (cs : List Str) (K : PySem.W.Frag) : Bool := cs.all fun c => excCB K (He.ga K c) && decide (PySem.W.kitOne K (.ref (He.ga K c)) (.type "ValueError") = some true) && decide (PySem.W.exmOne K (.ref (He.ga K c)) (.ref (He.ga K "AimError")) = some true) &&
  cs.all fun d => decide (PySem.W.kitOne K (.ref (He.ga K c)) (.ref (He.ga K d)) = some (decide (c = d)))
theorem errs_of {cs : List Str} (h : errsB cs K = true) (hm : ∀ c ∈ cs, mg c = some (.ref (He.ga K c))) (hA : mg "AimError" = some (.ref (He.ga K "AimError"))) : Errs K mg cs := by
  have key : ∀ c ∈ cs, excCB K (He.ga K c) = true ∧ PySem.W.kitOne K (.ref (He.ga K c)) (.type "ValueError") = some true ∧ PySem.W.exmOne K (.ref (He.ga K c)) (.ref (He.ga K "AimError")) = some true ∧ ∀ d ∈ cs, PySem.W.kitOne K (.ref (He.ga K c)) (.ref (He.ga K d)) = some (decide (c = d)) := fun c hc => by
    have := List.all_eq_true.mp h c hc
    simp only [Bool.and_eq_true, decide_eq_true_eq] at this
    obtain ⟨⟨⟨h1, h2⟩, h3⟩, h4⟩ := this
    exact ⟨h1, h2, h3, fun d hd => of_decide_eq_true (List.all_eq_true.mp h4 d hd)⟩
  have ad : ∀ c ∈ cs, ∀ C, mg c = some (.ref C) → C = He.ga K c := fun c hc C e => by
    rw [hm c hc] at e
    cases e
    rfl
  refine ⟨fun c hc => ⟨_, hm c hc, excC_of (key c hc).1⟩, fun c hc d hd C D' eC eD => ?_, fun c hc C eC => ?_, fun c hc C B eC eB => ?_⟩
  · rw [ad c hc C eC, ad d hd D' eD]
    exact (key c hc).2.2.2 d hd
  · rw [ad c hc C eC]
    exact (key c hc).2.1
  · rw [hA] at eB
    cases eB
    rw [ad c hc C eC]
    exact (key c hc).2.2.1
theorem ex_of {c : Str} (hm : mg c = some (.ref (He.ga K c))) (h : (He.Fa.exc c).ok K = true) : Ex K mg c := by
  obtain ⟨h1, h2, h3, h4⟩ := He.exc_ok h
  exact ⟨⟨_, hm, h1, h2, h3, h4⟩⟩
end

/-! ### the end -/
theorem cx_none {P : Program} {w : World} {H : Hp} {s : Shared} {e : Value} {s' : Shared} (h : L2N.CX P w [] H s (fun _ _ _ => False) e s') : False := by
  obtain ⟨_, _, _, _, _, _, _, _, _, _, _, _, z⟩ := h
  exact z
def tbOf (ts : List (Addr × Str)) : Tb := ⟨ts, fun _ _ => True, fun _ _ => trivial⟩
/-- the script as data -/
def script (ns : List Int) : D := .frz (ns.map .int)
theorem sp_start {K : PySem.W.Frag} {mg : Str → Option Value} {ts : List (Addr × Str)} {H : Hp} {a : Addr} {ns : List Int} {g : List D → M D} (hT : ∀ p ∈ ts, H p.1 = some (.tbl #[])) (hS : SqL K H a (ns.map V.int)) (hg : ∃ S, g [script ns] [] = .ok (.bool true) S) :
    spD K mg (tbOf ts) 1 g [.ref a] H (fun v _ => v = .bl true) fun _ _ _ => False := by
  obtain ⟨S1, hg⟩ := hg
  have hs : SqL K (hide ⟨[], []⟩ H) a (ns.map V.int) := by
    rcases hS with (h | ⟨o, h⟩) | h
    · exact .inl (.inl (hide_of (by simp) h))
    · exact .inl (.inr ⟨o, hide_of (by simp) h⟩)
    · exact .inr h
  refine ⟨[script ns], [], ⟨[], []⟩, rfl, .cons (.frz hs (rps_int ns)) .nil, ⟨rfl, List.nodup_nil, fun n a c e1 _ => by simp at e1, fun p hp => LamX.TabS.nil (hT p hp), trivial, fun p hp => by simp at hp⟩, ?_⟩
  rw [hg]
  intro O' H' v _ _ r
  cases r
  rfl
/-- a law of one lambda-maker: itself -/
theorem law_at {l : PySem.W.OpenLaw} {w : World} {K : PySem.W.Frag} {k : Nat} {x q : Str} {st : Stmt} {mg : Str → Option Value} {fa : Addr} {h : Heap} {g : List D → M D} {fd : FuncData} (KX : K.In h) (F : FunD K "law" "law" (defArgs st) (defBody st) (defScope st) [] [] fa fd) (hb : BindEq "law" st [x])
    {cc Pt : Addr} (he : h.get? Pt = some { cls := .none, data := .fields #[] }) (ho : K.lookup Pt = none) (hh : PySem.W.codeHdIn K cc Pt = true) (hcd : fd.code = .ref cc)
    (law : ∀ base : Heap, K.In base → LamX.TabB base mg cc Pt → FnOk l.prog w K mg base (L2N.CX l.prog w) k fa fd [x] (spD K mg (tbOf [(Pt, q)]) 1 g))
    (plain : ∀ ns : List Int, ns.length ≤ 63 → ∃ S, g [script ns] [] = .ok (.bool true) S) : LamX.LawAtS l w K (L2N.CX l.prog w) k 63 x mg fa h := by
  refine ⟨fd, [(cc, Pt)], _, ?_, ?_, ?_, fun s u => ?_, fun H a ns hl _ hH hS => sp_start (ts := [(Pt, q)]) ?_ hS (plain ns hl), fun base hK _ hT => law base hK (hT (cc, Pt) (by simp))⟩
  · intro p hp
    obtain rfl := List.mem_singleton.mp hp
    exact he
  · intro p hp
    obtain rfl := List.mem_singleton.mp hp
    exact ho
  · intro p hp
    obtain rfl := List.mem_singleton.mp hp
    exact PySem.W.codeHd_of_K KX hh
  · exact F.bindsA (ps := [x]) hb s [u] rfl
  · intro p hp
    obtain rfl := List.mem_singleton.mp hp
    exact hH (cc, Pt) (by simp)
end Z
end
section
set_option maxHeartbeats 4000000
/-! What combinators compute: a calculus of results, in plain Lean. -/
namespace Z
open PySem PySem.Spec L2

/-- m ends at S with P, or raises with E -/
def W {α : Type} (m : M α) (S : Store) (P : α → Store → Prop) (E : Str → Store → Prop) : Prop := match m S with
  | .ok a S' => P a S'
  | .err c S' => E c S'
  | .no => False
def WS (b : BS) (env : Ev) (S : Store) (Pn : Ev → Store → Prop) (Pr : D → Store → Prop) (E : Str → Store → Prop) : Prop := match b env S with
  | .next e S' => Pn e S'
  | .ret d S' => Pr d S'
  | .err c _ S' => E c S'
  | _ => False
abbrev NE : Str → Store → Prop := fun _ _ => False
section
variable {α β : Type} {m : M α} {f : α → M β} {S : Store} {P P' : α → Store → Prop} {Q : β → Store → Prop} {E E' : Str → Store → Prop}
@[simp] theorem W_pure {a : α} : W (pure a) S P E = P a S := rfl
@[simp] theorem W_no : W (no : M α) S P E = False := rfl
@[simp] theorem W_raise {c : Str} : W (raise c : M α) S P E = E c S := rfl
@[simp] theorem W_bind : W (m >>= f) S Q E = W m S (fun a S' => W (f a) S' Q E) E := by
  unfold W
  rw [bd_ap]
  cases m S <;> rfl
@[simp] theorem W_ite {c : Prop} [Decidable c] {a b : M α} : W (if c then a else b) S P E = if c then W a S P E else W b S P E := by
  split <;> rfl
theorem W_mono (h : W m S P E) (k : ∀ a S', P a S' → P' a S') (k' : ∀ c S', E c S' → E' c S' := by exact fun _ _ h => h) : W m S P' E' := by
  unfold W at h ⊢
  cases e : m S with
  | ok a S' => rw [e] at h; exact k _ _ h
  | err c S' => rw [e] at h; exact k' _ _ h
  | no => rw [e] at h; exact h
theorem W_eq {d : α} (h : ∀ S, W m S (fun a S' => a = d ∧ S' = S) NE) : m = pure d := by
  funext S
  have := h S
  unfold W at this
  cases e : m S with
  | ok a S' => rw [e] at this; obtain ⟨rfl, rfl⟩ := this; rfl
  | err c S' => rw [e] at this; exact this.elim
  | no => rw [e] at this; exact this.elim
theorem W_out (h : W m S P NE) : ∃ a S', m S = .ok a S' ∧ P a S' := by
  unfold W at h
  cases e : m S with
  | ok a S' => rw [e] at h; exact ⟨a, S', rfl, h⟩
  | err c S' => rw [e] at h; exact h.elim
  | no => rw [e] at h; exact h.elim
theorem W_of {a : α} {S' : Store} (e : m S = .ok a S') (h : P a S') : W m S P E := by
  unfold W
  rw [e]
  exact h
end
/-! ### expressions at work -/
section
variable {env : Ev} {f g h : BE} {t : BT} {fs : BA}
@[simp] theorem eVar_ap {i : Nat} : eVar i env = ofO (env[i]?.getD none) := rfl
@[simp] theorem eC_ap {d : D} : eC d env = pure d := rfl
@[simp] theorem e2_ap {o : D → D → M D} : e2 o f g env = f env >>= fun a => g env >>= fun b => o a b := rfl
@[simp] theorem e1_ap {o : D → M D} : e1 o f env = f env >>= o := rfl
@[simp] theorem g2_ap {o : D → D → M D} {a b : D} : g2 o a b = rd a >>= fun a' => rd b >>= fun b' => o a' b' := rfl
@[simp] theorem g1_ap {o : D → M D} {a : D} : g1 o a = rd a >>= o := rfl
@[simp] theorem aNil_ap : aNil env = pure [] := rfl
@[simp] theorem aCons_ap : aCons f fs env = f env >>= fun a => fs env >>= fun as => pure (a :: as) := rfl
@[simp] theorem eTup_ap : eTup fs env = fs env >>= fun as => if as.length ≤ 1000000 then pure (.tuple as) else no := rfl
@[simp] theorem eLst_ap : eLst fs env = fs env >>= fun as => if as.length ≤ 1000000 then pure (.list as) else no := rfl
@[simp] theorem eCel_ap : eCel fs env = fs env >>= fun as => if as.length ≤ 1000000 then newCell as else no := rfl
@[simp] theorem eCall_ap {n : Nat} {r : List D → M D} : eCall n r fs env = fs env >>= fun as => if as.length = n then r as else no := rfl
@[simp] theorem eCB_ap {r : List D → M D} : eCB r fs env = fs env >>= r := rfl
@[simp] theorem c1_ap {o : D → M D} {a : D} : c1 o [a] = rd a >>= o := rfl
@[simp] theorem c2_ap {o : D → D → M D} {a b : D} : c2 o [a, b] = rd a >>= fun a' => rd b >>= fun b' => o a' b' := rfl
@[simp] theorem eAnd_ap : eAnd f g env = f env >>= fun a => toBool a >>= fun b => if b = true then g env else pure (.bool false) := rfl
@[simp] theorem eOr_ap : eOr f g env = f env >>= fun a => toBool a >>= fun b => if b = true then pure (.bool true) else g env := rfl
@[simp] theorem eNot_ap : eNot f env = f env >>= fun a => toBool a >>= fun b => pure (.bool (!b)) := rfl
@[simp] theorem toBool_ap {b : Bool} : toBool (.bool b) = pure b := rfl
@[simp] theorem eIf_ap : eIf t f g env = t env >>= fun b => if b = true then f env else g env := rfl
@[simp] theorem bTru_ap : bTru f env = f env >>= tru := rfl
@[simp] theorem tru_b {b : Bool} : tru (.bool b) = pure b := rfl
@[simp] theorem bNot_ap : bNot t env = t env >>= fun b => pure (!b) := rfl
@[simp] theorem bAnd_ap {u : BT} : bAnd t u env = t env >>= fun b => if b = true then u env else pure false := rfl
@[simp] theorem bOr_ap {u : BT} : bOr t u env = t env >>= fun b => if b = true then pure true else u env := rfl
def oB : D → M Bool
  | .bool b => pure b
  | _ => no
@[simp] theorem tB1_ap : tB1 f env = f env >>= oB := by
  show (f env >>= _) = _
  congr 1
@[simp] theorem oB_ap {b : Bool} : oB (.bool b) = pure b := rfl
@[simp] theorem eChain_ap {o o' : D → D → M D} : eChain o o' f g h env = f env >>= fun a => g env >>= fun b => o a b >>= fun z => chn h o' b env z := rfl
@[simp] theorem chn_ap {o' : D → D → M D} {b : D} {c : Bool} : chn h o' b env (.bool c) = if c = true then h env >>= fun c => o' b c else pure (.bool false) := by
  cases c <;> rfl
@[simp] theorem eIsi_ap {ty : String} : eIsi ty f env = f env >>= fun a => rd a >>= gIsi ty := rfl
@[simp] theorem eSl_ap {lo hi : BO} : eSl f lo hi env = f env >>= fun a => lo env >>= fun l => hi env >>= fun h => rd a >>= fun a' => gSl a' l h := rfl
@[simp] theorem oNone_ap : oNone env = pure none := rfl
@[simp] theorem oSome_ap : oSome f env = f env >>= toInt := rfl
@[simp] theorem toInt_ap {i : Int} : toInt (.int i) = pure (some i) := rfl
@[simp] theorem eLc_ap {vs : List Nat} {i : BI} {tg : Tg} {tt : BT} : eLc vs i tg tt f env = i env >>= fun p => runLc tg tt f (wipeE env vs) p >>= fun ds => pure (.list ds) := rfl
@[simp] theorem iSeq_ap : iSeq f env = f env >>= toIts := rfl
@[simp] theorem iZp_ap : iZp f g env = f env >>= fun a => g env >>= fun b => toZip a b := rfl
@[simp] theorem iRg_ap : iRg f env = f env >>= toRng := rfl
@[simp] theorem eApp_ap : eApp f g env = f env >>= fun a => isCell a >>= fun _ => g env >>= fun y => push a y := rfl
@[simp] theorem ePop_ap : ePop f g env = f env >>= fun a => isCell a >>= fun _ => g env >>= fun i => popAt a i := rfl
@[simp] theorem isCell_ap {n : Nat} : isCell (.cell n) = pure () := rfl
/-! ### a value that is no cell -/
@[simp] theorem rd_non : rd .none = pure .none := rfl
@[simp] theorem rd_bl {b : Bool} : rd (.bool b) = pure (.bool b) := rfl
@[simp] theorem rd_int {b : Int} : rd (.int b) = pure (.int b) := rfl
@[simp] theorem rd_str {b : Str} : rd (.str b) = pure (.str b) := rfl
@[simp] theorem rd_list {b : List D} : rd (.list b) = pure (.list b) := rfl
@[simp] theorem rd_tuple {b : List D} : rd (.tuple b) = pure (.tuple b) := rfl
@[simp] theorem rd_frz {b : List D} : rd (.frz b) = pure (.frz b) := rfl
@[simp] theorem rd_fn {b : Str} : rd (.fn b) = pure (.fn b) := rfl
theorem rd_ok' {n : Nat} {d : D} (h : okD n d = true) : rd d = pure d := by
  cases d <;> first | rfl | (cases n <;> simp [okD] at h)
theorem ok_fix {n : Nat} : ∀ {d : D}, okD n d = true → fixD d = true := fun {d} h => by
  have both : ∀ (n : Nat), (∀ d, okD n d = true → fixD d = true) ∧ (∀ ds, okDs n ds = true → fixDs ds = true) := by
    intro n
    induction n with
    | zero =>
      have h1 : ∀ d, okD 0 d = true → fixD d = true := fun d h => by cases d <;> first | rfl | simp [okD] at h
      refine ⟨h1, fun ds => ?_⟩
      induction ds with
      | nil => intro _; rfl
      | cons d ds ih => intro h; rw [okDs_cons, Bool.and_eq_true] at h; rw [fixDs, h1 d h.1, ih h.2]; rfl
    | succ n ih =>
      have h1 : ∀ d, okD (n + 1) d = true → fixD d = true := fun d h => by
        cases d with
        | list xs => exact ih.2 xs h
        | tuple xs => exact ih.2 xs h
        | _ => first | rfl | simp [okD] at h
      refine ⟨h1, fun ds => ?_⟩
      induction ds with
      | nil => intro _; rfl
      | cons d ds ih2 => intro h; rw [okDs_cons, Bool.and_eq_true] at h; rw [fixDs, h1 d h.1, ih2 h.2]; rfl
  exact (both n).1 d h
end
/-! ### the operators on ints -/
section
variable {i j : Int}
@[simp] theorem gAdd_ii : gAdd (.int i) (.int j) = pure (.int (i + j)) := rfl
@[simp] theorem gSub_ii : gSub (.int i) (.int j) = pure (.int (i - j)) := rfl
@[simp] theorem gMul_ii : gMul (.int i) (.int j) = if small i = true ∧ small j = true then pure (.int (i * j)) else no := rfl
@[simp] theorem gDiv_ii : gDiv (.int i) (.int j) = if 0 < j ∧ small j = true then pure (.int (i / j)) else no := rfl
@[simp] theorem gMod_ii : gMod (.int i) (.int j) = if 0 < j then pure (.int (i % j)) else no := rfl
@[simp] theorem gCmp_ii {p : Int → Int → Bool} : gCmp p (.int i) (.int j) = pure (.bool (p i j)) := rfl
@[simp] theorem gNeg_i : gNeg (.int i) = pure (.int (-i)) := rfl
@[simp] theorem gAbs_i : gAbs (.int i) = pure (.int (if i < 0 then -i else i)) := rfl
@[simp] theorem gInt_i : gInt (.int i) = pure (.int i) := rfl
@[simp] theorem gMax_ii : gMax2 (.int i) (.int j) = pure (.int (if j > i then j else i)) := rfl
@[simp] theorem gMin_ii : gMin2 (.int i) (.int j) = pure (.int (if j < i then j else i)) := rfl
@[simp] theorem okD_int {n : Nat} : okD n (.int i) = true := by cases n <;> rfl
@[simp] theorem okD_bool {n : Nat} {b : Bool} : okD n (.bool b) = true := by cases n <;> rfl
@[simp] theorem okD_none {n : Nat} : okD n .none = true := by cases n <;> rfl
@[simp] theorem okD_tuple {n : Nat} {xs : List D} : okD (n + 1) (.tuple xs) = okDs n xs := rfl
@[simp] theorem okD_list {n : Nat} {xs : List D} : okD (n + 1) (.list xs) = okDs n xs := rfl
@[simp] theorem okDs_nil' {n : Nat} : okDs n [] = true := by cases n <;> rfl
@[simp] theorem gEq_ii : gEq (.int i) (.int j) = pure (.bool (decide (i = j))) := by
  unfold gEq
  rw [if_pos (by simp)]
  rfl
@[simp] theorem gNe_ii : gNe (.int i) (.int j) = pure (.bool (!decide (i = j))) := by
  unfold gNe
  rw [if_pos (by simp)]
  rfl
@[simp] theorem gLen_t {xs : List D} : gLen (.tuple xs) = pure (.int xs.length) := rfl
@[simp] theorem gLen_l {xs : List D} : gLen (.list xs) = pure (.int xs.length) := rfl
@[simp] theorem gLen_f {xs : List D} : gLen (.frz xs) = pure (.int xs.length) := rfl
@[simp] theorem gIx_t {xs : List D} : gIx (.tuple xs) (.int i) = ofO (atI xs i) := rfl
@[simp] theorem gIx_l {xs : List D} : gIx (.list xs) (.int i) = ofO (atI xs i) := rfl
@[simp] theorem gIx_f {xs : List D} : gIx (.frz xs) (.int i) = ofO (atI xs i) := rfl
end
/-! ### statements at work -/
section
variable {env : Ev} {S : Store} {f g : BS} {e e' e'' : BE} {t : BT} {Pn : Ev → Store → Prop} {Pr : D → Store → Prop} {E : Str → Store → Prop}
@[simp] theorem WS_nil : WS sNil env S Pn Pr E = Pn env S := rfl
@[simp] theorem WS_seq : WS (sSeq f g) env S Pn Pr E = WS f env S (fun v S' => WS g v S' Pn Pr E) Pr E := by
  unfold WS sSeq
  cases f env S <;> rfl
@[simp] theorem WS_set {i : Nat} : WS (sSet i e) env S Pn Pr E = W (e env) S (fun a S' => Pn (env.set i (some a)) S') E := by
  unfold WS sSet W
  cases e env S <;> rfl
@[simp] theorem WS_expr : WS (sExpr e) env S Pn Pr E = W (e env) S (fun _ S' => Pn env S') E := by
  unfold WS sExpr W
  cases e env S <;> rfl
@[simp] theorem WS_ret : WS (sRet e) env S Pn Pr E = W (e env) S Pr E := by
  unfold WS sRet W
  cases e env S <;> rfl
@[simp] theorem WS_retN : WS sRetN env S Pn Pr E = Pr .none S := rfl
@[simp] theorem WS_raise {c : Str} : WS (sRaise c) env S Pn Pr E = E c S := rfl
@[simp] theorem WS_if : WS (sIf t f g) env S Pn Pr E = W (t env) S (fun b S' => if b = true then WS f env S' Pn Pr E else WS g env S' Pn Pr E) E := by
  unfold WS sIf W
  cases t env S with
  | ok b S' => cases b <;> rfl
  | err c S' => rfl
  | no => rfl
@[simp] theorem WS_par {i j : Nat} : WS (sPar i j e e') env S Pn Pr E = W (e env) S (fun a S1 => W (e' env) S1 (fun b S2 => Pn ((env.set i (some a)).set j (some b)) S2) E) E := by
  unfold WS sPar W
  cases e env S with
  | ok a S1 =>
    dsimp only [thenS]
    cases e' env S1 <;> rfl
  | err c S' => rfl
  | no => rfl
@[simp] theorem WS_par3 {i j l : Nat} : WS (sPar3 i j l e e' e'') env S Pn Pr E = W (e env) S (fun a S1 => W (e' env) S1 (fun b S2 => W (e'' env) S2 (fun c S3 => Pn (((env.set i (some a)).set j (some b)).set l (some c)) S3) E) E) E := by
  unfold WS sPar3 W
  cases e env S with
  | ok a S1 =>
    dsimp only [thenS]
    cases e' env S1 with
    | ok b S2 =>
      dsimp only [thenS]
      cases e'' env S2 <;> rfl
    | err c S' => rfl
    | no => rfl
  | err c S' => rfl
  | no => rfl
def asgO (Pn : Ev → Store → Prop) (S : Store) : Option Ev → Prop
  | some v => Pn v S
  | none => False
@[simp] theorem asgO_some {v : Ev} : asgO Pn S (some v) = Pn v S := rfl
@[simp] theorem asgO_none : asgO Pn S none = False := rfl
@[simp] theorem WS_asg {tg : Tg} : WS (sAsg tg e) env S Pn Pr E = W (e env) S (fun a S' => asgO Pn S' (asg S' tg a env)) E := by
  unfold WS sAsg W
  cases e env S with
  | ok a S' =>
    dsimp only [thenS]
    cases asg S' tg a env <;> rfl
  | err c S' => rfl
  | no => rfl
theorem WS_mono {Pn' : Ev → Store → Prop} {Pr' : D → Store → Prop} {E' : Str → Store → Prop} (h : WS f env S Pn Pr E) (k1 : ∀ v S', Pn v S' → Pn' v S') (k2 : ∀ d S', Pr d S' → Pr' d S') (k3 : ∀ c S', E c S' → E' c S' := by exact fun _ _ h => h) : WS f env S Pn' Pr' E' := by
  unfold WS at h ⊢
  cases e : f env S with
  | next v S' => rw [e] at h; exact k1 _ _ h
  | ret d S' => rw [e] at h; exact k2 _ _ h
  | err c v S' => rw [e] at h; exact k3 _ _ h
  | _ => rw [e] at h; exact h
end
/-! the end of a tidy def -/
section
variable {ds : List D} {b : BS} {n : Nat} {S : Store} {P : D → Store → Prop} {E : Str → Store → Prop}
theorem W_fnT : W (fnOf true n b ds) S P E = WS b (ds.map some ++ List.replicate (n - ds.length) none) S (fun _ S' => P .none (S'.take S.length)) (fun d S' => W (endT S.length d) S' P E) E := by
  unfold W WS fnOf endF
  cases b (ds.map some ++ List.replicate (n - ds.length) none) S <;> rfl
theorem W_fnF : W (fnOf false n b ds) S P E = WS b (ds.map some ++ List.replicate (n - ds.length) none) S (fun _ S' => P .none S') P E := by
  unfold W WS fnOf endF
  cases b (ds.map some ++ List.replicate (n - ds.length) none) S <;> rfl
theorem W_endT {m : Nat} {d : D} (h : fixD d = true) : W (endT m d) S P E = P d (S.take m) := by
  unfold W
  cases d with
  | cell n => cases h
  | _ =>
    unfold endT
    dsimp only
    rw [if_pos h]
@[simp] theorem W_endB {m : Nat} {c : Bool} : W (endT m (.bool c)) S P E = P (.bool c) (S.take m) := W_endT rfl
@[simp] theorem W_endI {m : Nat} {c : Int} : W (endT m (.int c)) S P E = P (.int c) (S.take m) := W_endT rfl
end
end Z
end
section
set_option maxHeartbeats 4000000
/-! Types of plain values; what is asked of values. -/
namespace Z
open PySem PySem.Spec L2
theorem kb_NoneType_int : kitB "NoneType" "int" = some false := by decide +kernel
theorem kb_bool_int : kitB "bool" "int" = some true := by decide +kernel
theorem kb_int_int : kitB "int" "int" = some true := by decide +kernel
theorem kb_str_int : kitB "str" "int" = some false := by decide +kernel
theorem kb_list_int : kitB "list" "int" = some false := by decide +kernel
theorem kb_tuple_int : kitB "tuple" "int" = some false := by decide +kernel
theorem kb_NoneType_bool : kitB "NoneType" "bool" = some false := by decide +kernel
theorem kb_bool_bool : kitB "bool" "bool" = some true := by decide +kernel
theorem kb_int_bool : kitB "int" "bool" = some false := by decide +kernel
theorem kb_str_bool : kitB "str" "bool" = some false := by decide +kernel
theorem kb_list_bool : kitB "list" "bool" = some false := by decide +kernel
theorem kb_tuple_bool : kitB "tuple" "bool" = some false := by decide +kernel
theorem kb_NoneType_str : kitB "NoneType" "str" = some false := by decide +kernel
theorem kb_bool_str : kitB "bool" "str" = some false := by decide +kernel
theorem kb_int_str : kitB "int" "str" = some false := by decide +kernel
theorem kb_str_str : kitB "str" "str" = some true := by decide +kernel
theorem kb_list_str : kitB "list" "str" = some false := by decide +kernel
theorem kb_tuple_str : kitB "tuple" "str" = some false := by decide +kernel
theorem kb_NoneType_list : kitB "NoneType" "list" = some false := by decide +kernel
theorem kb_bool_list : kitB "bool" "list" = some false := by decide +kernel
theorem kb_int_list : kitB "int" "list" = some false := by decide +kernel
theorem kb_str_list : kitB "str" "list" = some false := by decide +kernel
theorem kb_list_list : kitB "list" "list" = some true := by decide +kernel
theorem kb_tuple_list : kitB "tuple" "list" = some false := by decide +kernel
theorem kb_NoneType_tuple : kitB "NoneType" "tuple" = some false := by decide +kernel
theorem kb_bool_tuple : kitB "bool" "tuple" = some false := by decide +kernel
theorem kb_int_tuple : kitB "int" "tuple" = some false := by decide +kernel
theorem kb_str_tuple : kitB "str" "tuple" = some false := by decide +kernel
theorem kb_list_tuple : kitB "list" "tuple" = some false := by decide +kernel
theorem kb_tuple_tuple : kitB "tuple" "tuple" = some true := by decide +kernel
/-- plain values -/
def isTy (ty : String) (v : D) : Bool := match v with
  | .int _ => ty == "int"
  | .bool _ => ty == "int" || ty == "bool"
  | .str _ => ty == "str"
  | .list _ => ty == "list"
  | .tuple _ => ty == "tuple"
  | _ => false
theorem isi_int {n : Nat} {v : D} (h : okD n v = true) : gIsi "int" v = pure (.bool (isTy "int" v)) := by
  unfold gIsi
  cases v with
  | none => rw [show tyName .none = some "NoneType" from rfl, Option.bind_some, kb_NoneType_int]; rfl
  | bool b => rw [show tyName (.bool b) = some "bool" from rfl, Option.bind_some, kb_bool_int]; rfl
  | int b => rw [show tyName (.int b) = some "int" from rfl, Option.bind_some, kb_int_int]; rfl
  | str b => rw [show tyName (.str b) = some "str" from rfl, Option.bind_some, kb_str_int]; rfl
  | list b => rw [show tyName (.list b) = some "list" from rfl, Option.bind_some, kb_list_int]; rfl
  | tuple b => rw [show tyName (.tuple b) = some "tuple" from rfl, Option.bind_some, kb_tuple_int]; rfl
  | _ => cases n <;> simp [okD] at h
theorem isi_bool {n : Nat} {v : D} (h : okD n v = true) : gIsi "bool" v = pure (.bool (isTy "bool" v)) := by
  unfold gIsi
  cases v with
  | none => rw [show tyName .none = some "NoneType" from rfl, Option.bind_some, kb_NoneType_bool]; rfl
  | bool b => rw [show tyName (.bool b) = some "bool" from rfl, Option.bind_some, kb_bool_bool]; rfl
  | int b => rw [show tyName (.int b) = some "int" from rfl, Option.bind_some, kb_int_bool]; rfl
  | str b => rw [show tyName (.str b) = some "str" from rfl, Option.bind_some, kb_str_bool]; rfl
  | list b => rw [show tyName (.list b) = some "list" from rfl, Option.bind_some, kb_list_bool]; rfl
  | tuple b => rw [show tyName (.tuple b) = some "tuple" from rfl, Option.bind_some, kb_tuple_bool]; rfl
  | _ => cases n <;> simp [okD] at h
theorem isi_str {n : Nat} {v : D} (h : okD n v = true) : gIsi "str" v = pure (.bool (isTy "str" v)) := by
  unfold gIsi
  cases v with
  | none => rw [show tyName .none = some "NoneType" from rfl, Option.bind_some, kb_NoneType_str]; rfl
  | bool b => rw [show tyName (.bool b) = some "bool" from rfl, Option.bind_some, kb_bool_str]; rfl
  | int b => rw [show tyName (.int b) = some "int" from rfl, Option.bind_some, kb_int_str]; rfl
  | str b => rw [show tyName (.str b) = some "str" from rfl, Option.bind_some, kb_str_str]; rfl
  | list b => rw [show tyName (.list b) = some "list" from rfl, Option.bind_some, kb_list_str]; rfl
  | tuple b => rw [show tyName (.tuple b) = some "tuple" from rfl, Option.bind_some, kb_tuple_str]; rfl
  | _ => cases n <;> simp [okD] at h
theorem isi_list {n : Nat} {v : D} (h : okD n v = true) : gIsi "list" v = pure (.bool (isTy "list" v)) := by
  unfold gIsi
  cases v with
  | none => rw [show tyName .none = some "NoneType" from rfl, Option.bind_some, kb_NoneType_list]; rfl
  | bool b => rw [show tyName (.bool b) = some "bool" from rfl, Option.bind_some, kb_bool_list]; rfl
  | int b => rw [show tyName (.int b) = some "int" from rfl, Option.bind_some, kb_int_list]; rfl
  | str b => rw [show tyName (.str b) = some "str" from rfl, Option.bind_some, kb_str_list]; rfl
  | list b => rw [show tyName (.list b) = some "list" from rfl, Option.bind_some, kb_list_list]; rfl
  | tuple b => rw [show tyName (.tuple b) = some "tuple" from rfl, Option.bind_some, kb_tuple_list]; rfl
  | _ => cases n <;> simp [okD] at h
theorem isi_tuple {n : Nat} {v : D} (h : okD n v = true) : gIsi "tuple" v = pure (.bool (isTy "tuple" v)) := by
  unfold gIsi
  cases v with
  | none => rw [show tyName .none = some "NoneType" from rfl, Option.bind_some, kb_NoneType_tuple]; rfl
  | bool b => rw [show tyName (.bool b) = some "bool" from rfl, Option.bind_some, kb_bool_tuple]; rfl
  | int b => rw [show tyName (.int b) = some "int" from rfl, Option.bind_some, kb_int_tuple]; rfl
  | str b => rw [show tyName (.str b) = some "str" from rfl, Option.bind_some, kb_str_tuple]; rfl
  | list b => rw [show tyName (.list b) = some "list" from rfl, Option.bind_some, kb_list_tuple]; rfl
  | tuple b => rw [show tyName (.tuple b) = some "tuple" from rfl, Option.bind_some, kb_tuple_tuple]; rfl
  | _ => cases n <;> simp [okD] at h
def isWhole (v : D) (lo hi : Int) : Bool := match v with
  | .int i => decide (lo ≤ i) && decide (i ≤ hi)
  | _ => false
def isRow (v : D) (lo hi : Int) : Bool := match v with
  | .tuple xs => decide (lo ≤ (xs.length : Int)) && decide ((xs.length : Int) ≤ hi)
  | _ => false
/-! ### places -/
theorem at0 {a : D} {xs : List D} : atI (a :: xs) 0 = some a := by
  unfold atI ixN
  simp
theorem at1 {a b : D} {xs : List D} : atI (a :: b :: xs) 1 = some b := by
  unfold atI ixN
  rw [if_pos (by omega), if_pos (by simp; omega)]
  rfl
theorem at2 {a b c : D} {xs : List D} : atI (a :: b :: c :: xs) 2 = some c := by
  unfold atI ixN
  rw [if_pos (by omega), if_pos (by simp; omega)]
  rfl
theorem okDs_cons' {n : Nat} {x : D} {xs : List D} : okDs n (x :: xs) = (okD n x && okDs n xs) := okDs_cons
theorem okDs_mem {n : Nat} : ∀ {xs : List D}, okDs n xs = true → ∀ x ∈ xs, okD n x = true
  | [], _, _, h => by simp at h
  | x :: xs, e, y, h => by
    rw [okDs_cons, Bool.and_eq_true] at e
    rcases List.mem_cons.mp h with rfl | h
    · exact e.1
    · exact okDs_mem e.2 y h
theorem okDs_of {n : Nat} : ∀ {xs : List D}, (∀ x ∈ xs, okD n x = true) → okDs n xs = true
  | [], _ => by simp
  | x :: xs, h => by
    rw [okDs_cons, Bool.and_eq_true]
    exact ⟨h x (by simp), okDs_of fun y hy => h y (List.mem_cons_of_mem _ hy)⟩
theorem gEq_ok {a b : D} (ha : okD 64 a = true) (hb : okD 64 b = true) : gEq a b = pure (.bool (eqD a b)) := by
  unfold gEq
  rw [if_pos ⟨ha, hb⟩]
theorem gNe_ok {a b : D} (ha : okD 64 a = true) (hb : okD 64 b = true) : gNe a b = pure (.bool (!eqD a b)) := by
  unfold gNe
  rw [if_pos ⟨ha, hb⟩]
theorem cut1 {xs : List D} : cutD xs (some 1) none = xs.drop 1 := by
  unfold cutD
  cases xs with
  | nil => rfl
  | cons x xs =>
    have e1 : HT.sIx (x :: xs).length 0 (some 1) = 1 := by
      show (if (1 : Int) < 0 then ((1 : Int) + ((x :: xs).length : Int)).toNat else min (1 : Int).toNat (x :: xs).length) = 1
      rw [if_neg (by omega)]
      simp
    have e2 : HT.sIx (x :: xs).length (x :: xs).length none = (x :: xs).length := rfl
    rw [e1, e2]
    simp
@[simp] theorem gSl_t {xs : List D} {lo hi : Option Int} : gSl (.tuple xs) lo hi = pure (.tuple (cutD xs lo hi)) := rfl
@[simp] theorem gSl_l {xs : List D} {lo hi : Option Int} : gSl (.list xs) lo hi = pure (.list (cutD xs lo hi)) := rfl
/-! ### what is walked -/
@[simp] theorem toIts_t {xs : List D} : toIts (.tuple xs) = pure ⟨xs, fun _ => true⟩ := rfl
@[simp] theorem toIts_l {xs : List D} : toIts (.list xs) = pure ⟨xs, fun _ => true⟩ := rfl
@[simp] theorem toZip_t {xs ys : List D} : toZip (.tuple xs) (.tuple ys) = pure ⟨pairDs xs ys, fun _ => true && true⟩ := rfl
theorem lc_go {t : Tg} {f : BE} {env : Ev} {gd : Store → Bool} {ε : D → Ev} {φ : D → D} (hg : ∀ S, gd S = true) : ∀ {ds acc : List D} {S : Store}, (∀ d ∈ ds, ∀ S, asg S t d env = some (ε d)) → (∀ d ∈ ds, f (ε d) = pure (φ d)) → acc.length + ds.length ≤ 1000000 → compM gd t bYes f env ds acc S = .ok (acc ++ ds.map φ) S
  | [], acc, S, _, _, _ => by
    rw [compM, if_pos (hg S)]
    simp
  | d :: ds, acc, S, ha, hf, hl => by
    rw [List.length_cons] at hl
    rw [compM, if_pos (hg S), ha d (by simp) S]
    dsimp only [bYes]
    rw [hf d (by simp)]
    dsimp only [pure_ap]
    rw [if_pos (by omega), lc_go hg (fun x hx => ha x (List.mem_cons_of_mem _ hx)) (fun x hx => hf x (List.mem_cons_of_mem _ hx)) (by simp; omega)]
    simp
theorem lc_map {t : Tg} {f : BE} {env : Ev} {p : Its} (ε : D → Ev) (φ : D → D) (hg : ∀ S, p.gd S = true) (ha : ∀ d ∈ p.ds, ∀ S, asg S t d env = some (ε d)) (hf : ∀ d ∈ p.ds, f (ε d) = pure (φ d)) (hl : p.ds.length ≤ 1000000) : runLc t bYes f env p = pure (p.ds.map φ) := by
  funext S
  unfold runLc
  rw [lc_go hg ha hf (by simpa using hl)]
  simp
theorem bools_map {α : Type} {p : α → Bool} : ∀ {xs : List α}, bools (xs.map fun x => D.bool (p x)) = some (xs.map p)
  | [] => rfl
  | x :: xs => by
    rw [List.map_cons, bools, bools_map]
    rfl
theorem gAll_map {α : Type} {p : α → Bool} {xs : List α} : gAll (.list (xs.map fun x => D.bool (p x))) = pure (.bool (xs.all p)) := by
  unfold gAll
  dsimp only
  rw [bools_map]
  simp [List.all_map]
/-! ### loops -/
section
variable {env : Ev} {S : Store} {Pn : Ev → Store → Prop} {Pr : D → Store → Prop} {E : Str → Store → Prop} {gd : Store → Bool} {t : Tg} {b : BS} {c : BT} {ds : List D} {d : D} {n : Nat}
@[simp] theorem WS_for {i : BI} : WS (sFor i t b) env S Pn Pr E = W (i env) S (fun p S' => WS (forM p.gd t b p.ds) env S' Pn Pr E) E := by
  unfold WS sFor W
  cases i env S <;> rfl
theorem WSF_nil (hg : gd S = true) (h : Pn env S) : WS (forM gd t b []) env S Pn Pr E := by
  unfold WS
  rw [forM, if_pos hg]
  exact h
theorem WSF_cons {env1 : Ev} (hg : gd S = true) (ha : asg S t d env = some env1) (h : WS b env1 S (fun v S' => WS (forM gd t b ds) v S' Pn Pr E) Pr E) : WS (forM gd t b (d :: ds)) env S Pn Pr E := by
  unfold WS at h ⊢
  rw [forM, if_pos hg, ha]
  dsimp only
  cases e : b env1 S with
  | next v S' => rw [e] at h; exact h
  | ret x S' => rw [e] at h; exact h
  | err x v S' => rw [e] at h; exact h
  | brk v S' => rw [e] at h; exact h.elim
  | cont v S' => rw [e] at h; exact h.elim
  | no => rw [e] at h; exact h.elim
theorem WSW {n : Nat} (h : W (c env) S (fun k S1 => if k = true then WS b env S1 (fun v S' => WS (whileM c b n) v S' Pn Pr E) Pr E else Pn env S1) E) : WS (whileM c b (n + 1)) env S Pn Pr E := by
  unfold WS W at *
  rw [whileM]
  cases e : c env S with
  | ok k S1 =>
    rw [e] at h
    dsimp only [thenS] at h ⊢
    cases k with
    | true =>
      rw [if_pos rfl] at h ⊢
      cases e2 : b env S1 with
      | next v S' => rw [e2] at h; exact h
      | ret x S' => rw [e2] at h; exact h
      | err x v S' => rw [e2] at h; exact h
      | brk v S' => rw [e2] at h; exact h.elim
      | cont v S' => rw [e2] at h; exact h.elim
      | no => rw [e2] at h; exact h.elim
    | false =>
      rw [if_neg (by decide)] at h ⊢
      exact h
  | err x S' => rw [e] at h; exact h
  | no => rw [e] at h; exact h.elim
theorem WSF_inv (Inv : Nat → Ev → Store → Prop) (hg : ∀ S, gd S = true) : ∀ (ds : List D) (j : Nat) (env : Ev) (S : Store), (∀ i d env S, ds[i]? = some d → Inv (j + i) env S → ∃ env1, asg S t d env = some env1 ∧ WS b env1 S (Inv (j + i + 1)) Pr E) → Inv j env S → (∀ v S', Inv (j + ds.length) v S' → Pn v S') → WS (forM gd t b ds) env S Pn Pr E
  | [], j, env, S, _, h0, hn => WSF_nil (hg S) (hn _ _ h0)
  | d :: ds, j, env, S, step, h0, hn => by
    obtain ⟨env1, e1, h1⟩ := step 0 d env S rfl h0
    refine WSF_cons (hg S) e1 (WS_mono h1 (fun v S' hv => ?_) fun _ _ h => h)
    refine WSF_inv Inv hg ds (j + 1) v S' (fun i d' env' S2 hd hi => ?_) hv (fun v2 S2 h2 => hn v2 S2 (by rw [List.length_cons, ← Nat.add_assoc, Nat.add_right_comm]; exact h2))
    have := step (i + 1) d' env' S2 (by simpa using hd) (by rw [← Nat.add_assoc, Nat.add_right_comm]; exact hi)
    rw [← Nat.add_assoc, Nat.add_right_comm j i 1] at this
    exact this
theorem range_at {n i : Nat} {d : D} (h : (rangeDs 0 n)[i]? = some d) : i < n ∧ d = .int (i : Nat) := by
  unfold rangeDs at h
  rw [List.getElem?_map] at h
  obtain ⟨j, h1, h2⟩ := Option.map_eq_some_iff.mp h
  have hl := (List.getElem?_eq_some_iff.mp h1).1
  rw [List.length_range] at hl
  rw [List.getElem?_range hl] at h1
  cases h1
  subst h2
  exact ⟨hl, by simp⟩
@[simp] theorem rangeDs_len {lo : Int} {n : Nat} : (rangeDs lo n).length = n := by
  simp [rangeDs]
theorem toRng_n {n : Nat} (h : n ≤ 1000000) : toRng (.int (n : Nat)) = pure ⟨rangeDs 0 n, fun _ => true⟩ := by
  unfold toRng
  dsimp only
  rw [if_pos ⟨by omega, by omega⟩]
  rfl
end
/-! ### lists that change -/
section
variable {S : Store} {n : Nat} {ds : List D} {d y : D} {P : D → Store → Prop} {E : Str → Store → Prop}
theorem W_rd (e : S[n]? = some (.lst ds)) : W (rd (.cell n)) S P E = P (.list ds) S := by
  unfold W rd
  dsimp only
  rw [e]
theorem W_cellAt {P : Nat × List D → Store → Prop} (e : S[n]? = some (.lst ds)) : W (cellAt (.cell n)) S P E = P (n, ds) S := by
  unfold W cellAt
  dsimp only
  rw [e]
theorem W_setCell : W (setCell n ds d) S P E = P d (S.set n (.lst ds)) := rfl
theorem W_pop0 (e : S[n]? = some (.lst (d :: ds))) (hl : ds.length < 1000000) : W (popAt (.cell n) (.int 0)) S P E = P d (S.set n (.lst ds)) := by
  have e2 : ixN (d :: ds).length 0 = some 0 := by
    unfold ixN
    rw [if_pos (by omega), if_pos (by rw [List.length_cons]; omega)]
    rfl
  unfold popAt
  rw [W_bind, W_cellAt e]
  dsimp only
  rw [if_pos (by rw [List.length_cons]; omega), e2]
  rfl
theorem W_push (e : S[n]? = some (.lst ds)) (hf : fixD y = true) (hl : ds.length < 1000000) : W (push (.cell n) y) S P E = P .none (S.set n (.lst (ds ++ [y]))) := by
  unfold push
  rw [W_bind, W_cellAt e]
  dsimp only
  rw [if_pos ⟨hf, hl⟩]
  rfl
theorem W_new (hf : fixDs ds = true) : W (newCell ds) S P E = P (.cell S.length) (S ++ [.lst ds]) := by
  unfold W newCell
  rw [if_pos hf]
end
end Z
end
section
set_option maxHeartbeats 4000000
/-! More laws of results. -/
namespace Z
open PySem PySem.Spec L2
section
variable {S : Store} {d : D} {ds es : List D} {env : Ev} {i : Nat} {t : Tg} {ts : List Tg}
@[simp] theorem asg_name : asg S (.name i) d env = some (env.set i (some d)) := by simp [asg]
@[simp] theorem asg_tt : asg S (.tup ts) (.tuple ds) env = asgs S ts ds env := by simp [asg]
@[simp] theorem asg_tl : asg S (.tup ts) (.list ds) env = asgs S ts ds env := by simp [asg]
@[simp] theorem asgs_nil : asgs S [] [] env = some env := by simp [asgs]
@[simp] theorem asgs_cons : asgs S (t :: ts) (d :: ds) env = (asg S t d env).bind (asgs S ts ds) := by
  simp [asgs]
@[simp] theorem gAdd_tt : gAdd (.tuple ds) (.tuple es) = if ds.length + es.length ≤ 1000000 then pure (.tuple (ds ++ es)) else no := rfl
@[simp] theorem gAdd_ll : gAdd (.list ds) (.list es) = if ds.length + es.length ≤ 1000000 then pure (.list (ds ++ es)) else no := rfl
@[simp] theorem gAdd_bi {b : Bool} {j : Int} : gAdd (.bool b) (.int j) = pure (.int (b2n b + j)) := rfl
@[simp] theorem gSub_bi {b : Bool} {j : Int} : gSub (.bool b) (.int j) = pure (.int (b2n b - j)) := rfl
@[simp] theorem gAddC_ll : gAddC (.list ds) (.list es) = if ds.length + es.length ≤ 1000000 then newCell (ds ++ es) else no := rfl
@[simp] theorem gTuple_t : gTuple (.tuple ds) = pure (.tuple ds) := rfl
@[simp] theorem gTuple_l : gTuple (.list ds) = pure (.tuple ds) := rfl
@[simp] theorem gList_t : gList (.tuple ds) = pure (.list ds) := rfl
@[simp] theorem gList_l : gList (.list ds) = pure (.list ds) := rfl
@[simp] theorem gRevT_t : gRevT (.tuple ds) = pure (.tuple ds.reverse) := rfl
@[simp] theorem fix_t : fixD (.tuple ds) = fixDs ds := rfl
@[simp] theorem fix_l : fixD (.list ds) = fixDs ds := rfl
@[simp] theorem fix_i {j : Int} : fixD (.int j) = true := rfl
@[simp] theorem fix_b {j : Bool} : fixD (.bool j) = true := rfl
@[simp] theorem fix_s {j : Str} : fixD (.str j) = true := rfl
@[simp] theorem fix_n : fixD .none = true := rfl
@[simp] theorem fixs_nil : fixDs [] = true := rfl
@[simp] theorem fixs_cons : fixDs (d :: ds) = (fixD d && fixDs ds) := rfl
@[simp] theorem fixs_app : fixDs (ds ++ es) = (fixDs ds && fixDs es) := by
  induction ds with
  | nil => simp
  | cons d ds ih => simp [ih, Bool.and_assoc]
theorem fixs_all : fixDs ds = ds.all fixD := by
  induction ds with
  | nil => rfl
  | cons d ds ih => simp [ih]
end
end Z
end
section
set_option maxHeartbeats 4000000
/-! Backward steps: a goal about a combinator from goals about its parts. -/
namespace Z
open PySem PySem.Spec L2
section
variable {α β : Type} {m : M α} {F : α → M β} {S : Store} {P : D → Store → Prop} {PB : Bool → Store → Prop} {PA : List D → Store → Prop} {PO : Option Int → Store → Prop} {PI : Its → Store → Prop} {Q : β → Store → Prop} {R : α → Store → Prop} {E : Str → Store → Prop}
  {env : Ev} {f g h : BE} {t u : BT} {fs : BA} {i j : Int} {n k : Nat} {d a b : D} {ds es : List D} {Pn : Ev → Store → Prop} {Pr : D → Store → Prop} {s s' : BS} {e e' e'' : BE} {c : Bool} {x y : Str} {p : Prop}

theorem w_bind (H : W m S (fun a S' => W (F a) S' Q E) E) : W (m >>= F) S Q E := by rw [W_bind]; exact H
theorem w_pure {a : α} (H : R a S) : W (pure a) S R E := H
theorem w_eq {a : α} {m : M α} (e : m = pure a) (H : R a S) : W m S R E := by rw [e]; exact H
theorem w_var (e : env[n]? = some (some d)) (H : P d S) : W (eVar n env) S P E := by rw [eVar_ap, e]; exact H
theorem w_c (H : P d S) : W (eC d env) S P E := H
theorem w_e2 {o : D → D → M D} (H : W (f env) S (fun a S1 => W (g env) S1 (fun b S2 => W (o a b) S2 P E) E) E) : W (e2 o f g env) S P E := by rw [e2_ap, W_bind]; simpa only [W_bind] using H
theorem w_e1 {o : D → M D} (H : W (f env) S (fun a S1 => W (o a) S1 P E) E) : W (e1 o f env) S P E := by rw [e1_ap, W_bind]; exact H
theorem w_g2 {o : D → D → M D} (H : W (rd a) S (fun a S1 => W (rd b) S1 (fun b S2 => W (o a b) S2 P E) E) E) : W (g2 o a b) S P E := by rw [g2_ap, W_bind]; simpa only [W_bind] using H
theorem w_g1 {o : D → M D} (H : W (rd a) S (fun a S1 => W (o a) S1 P E) E) : W (g1 o a) S P E := by rw [g1_ap, W_bind]; exact H
theorem w_rd_i (H : P (.int i) S) : W (rd (.int i)) S P E := H
theorem w_rd_b (H : P (.bool c) S) : W (rd (.bool c)) S P E := H
theorem w_rd_s (H : P (.str x) S) : W (rd (.str x)) S P E := H
theorem w_rd_n (H : P (.none) S) : W (rd (.none)) S P E := H
theorem w_rd_t (H : P (.tuple ds) S) : W (rd (.tuple ds)) S P E := H
theorem w_rd_l (H : P (.list ds) S) : W (rd (.list ds)) S P E := H
theorem w_rd_f (H : P (.frz ds) S) : W (rd (.frz ds)) S P E := H
theorem w_rd_fn (H : P (.fn x) S) : W (rd (.fn x)) S P E := H
theorem w_rd_c (e : S[n]? = some (.lst ds)) (H : P (.list ds) S) : W (rd (.cell n)) S P E := by rw [W_rd e]; exact H
theorem w_rd_ok (e : okD k d = true) (H : P d S) : W (rd d) S P E := by rw [rd_ok' e]; exact H
theorem w_aNil (H : PA [] S) : W (aNil env) S PA E := H
theorem w_aCons (H : W (f env) S (fun a S1 => W (fs env) S1 (fun as S2 => PA (a :: as) S2) E) E) : W (aCons f fs env) S PA E := by rw [aCons_ap, W_bind]; simpa only [W_bind, W_pure] using H
theorem w_eTup (H : W (fs env) S (fun as S1 => as.length ≤ 1000000 ∧ P (.tuple as) S1) E) : W (eTup fs env) S P E := by
  rw [eTup_ap, W_bind]
  refine W_mono H fun as S1 h => ?_
  rw [if_pos h.1]
  exact h.2
theorem w_eLst (H : W (fs env) S (fun as S1 => as.length ≤ 1000000 ∧ P (.list as) S1) E) : W (eLst fs env) S P E := by
  rw [eLst_ap, W_bind]
  refine W_mono H fun as S1 h => ?_
  rw [if_pos h.1]
  exact h.2
theorem w_eCel (H : W (fs env) S (fun as S1 => as.length ≤ 1000000 ∧ W (newCell as) S1 P E) E) : W (eCel fs env) S P E := by
  rw [eCel_ap, W_bind]
  refine W_mono H fun as S1 h => ?_
  rw [if_pos h.1]
  exact h.2
theorem w_new (hf : fixDs ds = true) (H : P (.cell S.length) (S ++ [.lst ds])) : W (newCell ds) S P E := by rw [W_new hf]; exact H
theorem len_ok {A : Prop} (h : Nat.ble ds.length 1000000 = true) (H : A) : ds.length ≤ 1000000 ∧ A := ⟨Nat.le_of_ble_eq_true h, H⟩
theorem w_eCall {r : List D → M D} (H : W (fs env) S (fun as S1 => as.length = n ∧ W (r as) S1 P E) E) : W (eCall n r fs env) S P E := by
  rw [eCall_ap, W_bind]
  refine W_mono H fun as S1 h => ?_
  rw [if_pos h.1]
  exact h.2
theorem len_eq {A : Prop} (h : ds.length = n) (H : A) : ds.length = n ∧ A := ⟨h, H⟩
theorem w_eCB {r : List D → M D} (H : W (fs env) S (fun as S1 => W (r as) S1 P E) E) : W (eCB r fs env) S P E := by rw [eCB_ap, W_bind]; exact H
theorem w_c1 {o : D → M D} (H : W (rd a) S (fun a S1 => W (o a) S1 P E) E) : W (c1 o [a]) S P E := by rw [c1_ap, W_bind]; exact H
theorem w_c2 {o : D → D → M D} (H : W (rd a) S (fun a S1 => W (rd b) S1 (fun b S2 => W (o a b) S2 P E) E) E) : W (c2 o [a, b]) S P E := by rw [c2_ap, W_bind]; simpa only [W_bind] using H
theorem w_eAnd (H : W (f env) S (fun a S1 => W (toBool a) S1 (fun b S2 => if b = true then W (g env) S2 P E else P (.bool false) S2) E) E) : W (eAnd f g env) S P E := by rw [eAnd_ap, W_bind]; simpa only [W_bind, W_ite, W_pure] using H
theorem w_eOr (H : W (f env) S (fun a S1 => W (toBool a) S1 (fun b S2 => if b = true then P (.bool true) S2 else W (g env) S2 P E) E) E) : W (eOr f g env) S P E := by rw [eOr_ap, W_bind]; simpa only [W_bind, W_ite, W_pure] using H
theorem w_eNot (H : W (f env) S (fun a S1 => W (toBool a) S1 (fun b S2 => P (.bool (!b)) S2) E) E) : W (eNot f env) S P E := by rw [eNot_ap, W_bind]; simpa only [W_bind, W_ite, W_pure] using H
theorem w_toBool (H : PB c S) : W (toBool (.bool c)) S PB E := H
theorem w_eIf (H : W (t env) S (fun b S1 => if b = true then W (f env) S1 P E else W (g env) S1 P E) E) : W (eIf t f g env) S P E := by rw [eIf_ap, W_bind]; simpa only [W_bind, W_ite] using H
theorem w_bTru (H : W (f env) S (fun a S1 => W (tru a) S1 PB E) E) : W (bTru f env) S PB E := by rw [bTru_ap, W_bind]; exact H
theorem w_tru_b (H : PB c S) : W (tru (.bool c)) S PB E := H
theorem w_tru_n (H : PB false S) : W (tru .none) S PB E := H
theorem w_tru_i (H : PB (i != 0) S) : W (tru (.int i)) S PB E := H
theorem w_tru_t (H : PB (!ds.isEmpty) S) : W (tru (.tuple ds)) S PB E := H
theorem w_tru_l (H : PB (!ds.isEmpty) S) : W (tru (.list ds)) S PB E := H
theorem w_tB1 (H : W (f env) S (fun a S1 => W (oB a) S1 PB E) E) : W (tB1 f env) S PB E := by rw [tB1_ap, W_bind]; exact H
theorem w_oB (H : PB c S) : W (oB (.bool c)) S PB E := H
theorem w_bNot (H : W (t env) S (fun b S1 => PB (!b) S1) E) : W (bNot t env) S PB E := by rw [bNot_ap, W_bind]; simpa only [W_pure] using H
theorem w_bAnd (H : W (t env) S (fun b S1 => if b = true then W (u env) S1 PB E else PB false S1) E) : W (bAnd t u env) S PB E := by rw [bAnd_ap, W_bind]; simpa only [W_bind, W_ite, W_pure] using H
theorem w_bOr (H : W (t env) S (fun b S1 => if b = true then PB true S1 else W (u env) S1 PB E) E) : W (bOr t u env) S PB E := by rw [bOr_ap, W_bind]; simpa only [W_bind, W_ite, W_pure] using H
theorem w_bYes (H : PB true S) : W (bYes env) S PB E := H
theorem w_eChain {o o' : D → D → M D} (H : W (f env) S (fun a S1 => W (g env) S1 (fun b S2 => W (o a b) S2 (fun z S3 => W (toBool z) S3 (fun c S4 => if c = true then W (h env) S4 (fun c S5 => W (o' b c) S5 P E) E else P (.bool false) S4) E) E) E) E) : W (eChain o o' f g h env) S P E := by
  rw [eChain_ap, W_bind]
  refine W_mono H fun a S1 H => ?_
  rw [W_bind]
  refine W_mono H fun b S2 H => ?_
  rw [W_bind]
  refine W_mono H fun z S3 H => ?_
  cases z with
  | bool c =>
    rw [chn_ap]
    rw [toBool_ap, W_pure] at H
    rw [W_ite, W_bind, W_pure]
    exact H
  | _ => exact H.elim
theorem w_eIsi {ty : String} (H : W (f env) S (fun a S1 => W (rd a) S1 (fun a S2 => W (gIsi ty a) S2 P E) E) E) : W (eIsi ty f env) S P E := by rw [eIsi_ap, W_bind]; simpa only [W_bind] using H
theorem w_is_int_i (H : P (.bool true) S) : W (gIsi "int" (.int i)) S P E := by
  unfold gIsi
  rw [show tyName (.int i) = some "int" from rfl, Option.bind_some, kb_int_int]
  exact H
theorem w_is_int_b (H : P (.bool true) S) : W (gIsi "int" (.bool c)) S P E := by
  unfold gIsi
  rw [show tyName (.bool c) = some "bool" from rfl, Option.bind_some, kb_bool_int]
  exact H
theorem w_is_int_s (H : P (.bool false) S) : W (gIsi "int" (.str x)) S P E := by
  unfold gIsi
  rw [show tyName (.str x) = some "str" from rfl, Option.bind_some, kb_str_int]
  exact H
theorem w_is_int_n (H : P (.bool false) S) : W (gIsi "int" (.none)) S P E := by
  unfold gIsi
  rw [show tyName (.none) = some "NoneType" from rfl, Option.bind_some, kb_NoneType_int]
  exact H
theorem w_is_int_t (H : P (.bool false) S) : W (gIsi "int" (.tuple ds)) S P E := by
  unfold gIsi
  rw [show tyName (.tuple ds) = some "tuple" from rfl, Option.bind_some, kb_tuple_int]
  exact H
theorem w_is_int_l (H : P (.bool false) S) : W (gIsi "int" (.list ds)) S P E := by
  unfold gIsi
  rw [show tyName (.list ds) = some "list" from rfl, Option.bind_some, kb_list_int]
  exact H
theorem w_is_bool_i (H : P (.bool false) S) : W (gIsi "bool" (.int i)) S P E := by
  unfold gIsi
  rw [show tyName (.int i) = some "int" from rfl, Option.bind_some, kb_int_bool]
  exact H
theorem w_is_bool_b (H : P (.bool true) S) : W (gIsi "bool" (.bool c)) S P E := by
  unfold gIsi
  rw [show tyName (.bool c) = some "bool" from rfl, Option.bind_some, kb_bool_bool]
  exact H
theorem w_is_bool_s (H : P (.bool false) S) : W (gIsi "bool" (.str x)) S P E := by
  unfold gIsi
  rw [show tyName (.str x) = some "str" from rfl, Option.bind_some, kb_str_bool]
  exact H
theorem w_is_bool_n (H : P (.bool false) S) : W (gIsi "bool" (.none)) S P E := by
  unfold gIsi
  rw [show tyName (.none) = some "NoneType" from rfl, Option.bind_some, kb_NoneType_bool]
  exact H
theorem w_is_bool_t (H : P (.bool false) S) : W (gIsi "bool" (.tuple ds)) S P E := by
  unfold gIsi
  rw [show tyName (.tuple ds) = some "tuple" from rfl, Option.bind_some, kb_tuple_bool]
  exact H
theorem w_is_bool_l (H : P (.bool false) S) : W (gIsi "bool" (.list ds)) S P E := by
  unfold gIsi
  rw [show tyName (.list ds) = some "list" from rfl, Option.bind_some, kb_list_bool]
  exact H
theorem w_is_str_i (H : P (.bool false) S) : W (gIsi "str" (.int i)) S P E := by
  unfold gIsi
  rw [show tyName (.int i) = some "int" from rfl, Option.bind_some, kb_int_str]
  exact H
theorem w_is_str_b (H : P (.bool false) S) : W (gIsi "str" (.bool c)) S P E := by
  unfold gIsi
  rw [show tyName (.bool c) = some "bool" from rfl, Option.bind_some, kb_bool_str]
  exact H
theorem w_is_str_s (H : P (.bool true) S) : W (gIsi "str" (.str x)) S P E := by
  unfold gIsi
  rw [show tyName (.str x) = some "str" from rfl, Option.bind_some, kb_str_str]
  exact H
theorem w_is_str_n (H : P (.bool false) S) : W (gIsi "str" (.none)) S P E := by
  unfold gIsi
  rw [show tyName (.none) = some "NoneType" from rfl, Option.bind_some, kb_NoneType_str]
  exact H
theorem w_is_str_t (H : P (.bool false) S) : W (gIsi "str" (.tuple ds)) S P E := by
  unfold gIsi
  rw [show tyName (.tuple ds) = some "tuple" from rfl, Option.bind_some, kb_tuple_str]
  exact H
theorem w_is_str_l (H : P (.bool false) S) : W (gIsi "str" (.list ds)) S P E := by
  unfold gIsi
  rw [show tyName (.list ds) = some "list" from rfl, Option.bind_some, kb_list_str]
  exact H
theorem w_is_list_i (H : P (.bool false) S) : W (gIsi "list" (.int i)) S P E := by
  unfold gIsi
  rw [show tyName (.int i) = some "int" from rfl, Option.bind_some, kb_int_list]
  exact H
theorem w_is_list_b (H : P (.bool false) S) : W (gIsi "list" (.bool c)) S P E := by
  unfold gIsi
  rw [show tyName (.bool c) = some "bool" from rfl, Option.bind_some, kb_bool_list]
  exact H
theorem w_is_list_s (H : P (.bool false) S) : W (gIsi "list" (.str x)) S P E := by
  unfold gIsi
  rw [show tyName (.str x) = some "str" from rfl, Option.bind_some, kb_str_list]
  exact H
theorem w_is_list_n (H : P (.bool false) S) : W (gIsi "list" (.none)) S P E := by
  unfold gIsi
  rw [show tyName (.none) = some "NoneType" from rfl, Option.bind_some, kb_NoneType_list]
  exact H
theorem w_is_list_t (H : P (.bool false) S) : W (gIsi "list" (.tuple ds)) S P E := by
  unfold gIsi
  rw [show tyName (.tuple ds) = some "tuple" from rfl, Option.bind_some, kb_tuple_list]
  exact H
theorem w_is_list_l (H : P (.bool true) S) : W (gIsi "list" (.list ds)) S P E := by
  unfold gIsi
  rw [show tyName (.list ds) = some "list" from rfl, Option.bind_some, kb_list_list]
  exact H
theorem w_is_tuple_i (H : P (.bool false) S) : W (gIsi "tuple" (.int i)) S P E := by
  unfold gIsi
  rw [show tyName (.int i) = some "int" from rfl, Option.bind_some, kb_int_tuple]
  exact H
theorem w_is_tuple_b (H : P (.bool false) S) : W (gIsi "tuple" (.bool c)) S P E := by
  unfold gIsi
  rw [show tyName (.bool c) = some "bool" from rfl, Option.bind_some, kb_bool_tuple]
  exact H
theorem w_is_tuple_s (H : P (.bool false) S) : W (gIsi "tuple" (.str x)) S P E := by
  unfold gIsi
  rw [show tyName (.str x) = some "str" from rfl, Option.bind_some, kb_str_tuple]
  exact H
theorem w_is_tuple_n (H : P (.bool false) S) : W (gIsi "tuple" (.none)) S P E := by
  unfold gIsi
  rw [show tyName (.none) = some "NoneType" from rfl, Option.bind_some, kb_NoneType_tuple]
  exact H
theorem w_is_tuple_t (H : P (.bool true) S) : W (gIsi "tuple" (.tuple ds)) S P E := by
  unfold gIsi
  rw [show tyName (.tuple ds) = some "tuple" from rfl, Option.bind_some, kb_tuple_tuple]
  exact H
theorem w_is_tuple_l (H : P (.bool false) S) : W (gIsi "tuple" (.list ds)) S P E := by
  unfold gIsi
  rw [show tyName (.list ds) = some "list" from rfl, Option.bind_some, kb_list_tuple]
  exact H
theorem w_is_int_ok (e : okD k d = true) (H : P (.bool (isTy "int" d)) S) : W (gIsi "int" d) S P E := by rw [isi_int e]; exact H
theorem w_is_bool_ok (e : okD k d = true) (H : P (.bool (isTy "bool" d)) S) : W (gIsi "bool" d) S P E := by rw [isi_bool e]; exact H
theorem w_is_str_ok (e : okD k d = true) (H : P (.bool (isTy "str" d)) S) : W (gIsi "str" d) S P E := by rw [isi_str e]; exact H
theorem w_is_list_ok (e : okD k d = true) (H : P (.bool (isTy "list" d)) S) : W (gIsi "list" d) S P E := by rw [isi_list e]; exact H
theorem w_is_tuple_ok (e : okD k d = true) (H : P (.bool (isTy "tuple" d)) S) : W (gIsi "tuple" d) S P E := by rw [isi_tuple e]; exact H
theorem w_add (H : P (.int (i + j)) S) : W (gAdd (.int i) (.int j)) S P E := H
theorem w_addT (e : ds.length + es.length ≤ 1000000) (H : P (.tuple (ds ++ es)) S) : W (gAdd (.tuple ds) (.tuple es)) S P E := by rw [gAdd_tt, if_pos e]; exact H
theorem w_addL (e : ds.length + es.length ≤ 1000000) (H : P (.list (ds ++ es)) S) : W (gAdd (.list ds) (.list es)) S P E := by rw [gAdd_ll, if_pos e]; exact H
theorem w_addC (e : ds.length + es.length ≤ 1000000) (H : W (newCell (ds ++ es)) S P E) : W (gAddC (.list ds) (.list es)) S P E := by rw [gAddC_ll, if_pos e]; exact H
theorem w_sub (H : P (.int (i - j)) S) : W (gSub (.int i) (.int j)) S P E := H
theorem w_addB (H : P (.int (b2n c + j)) S) : W (gAdd (.bool c) (.int j)) S P E := H
theorem w_subB (H : P (.int (b2n c - j)) S) : W (gSub (.bool c) (.int j)) S P E := H
theorem w_mul (e : small i = true) (e2 : small j = true) (H : P (.int (i * j)) S) : W (gMul (.int i) (.int j)) S P E := by rw [gMul_ii, if_pos ⟨e, e2⟩]; exact H
theorem w_div (e : 0 < j) (e2 : small j = true) (H : P (.int (i / j)) S) : W (gDiv (.int i) (.int j)) S P E := by rw [gDiv_ii, if_pos ⟨e, e2⟩]; exact H
theorem w_mod (e : 0 < j) (H : P (.int (i % j)) S) : W (gMod (.int i) (.int j)) S P E := by rw [gMod_ii, if_pos e]; exact H
theorem w_cmp {q : Int → Int → Bool} (H : P (.bool (q i j)) S) : W (gCmp q (.int i) (.int j)) S P E := H
theorem w_neg (H : P (.int (-i)) S) : W (gNeg (.int i)) S P E := H
theorem w_abs (H : P (.int (if i < 0 then -i else i)) S) : W (gAbs (.int i)) S P E := H
theorem w_int (H : P (.int i) S) : W (gInt (.int i)) S P E := H
theorem w_max (H : P (.int (if j > i then j else i)) S) : W (gMax2 (.int i) (.int j)) S P E := H
theorem w_min (H : P (.int (if j < i then j else i)) S) : W (gMin2 (.int i) (.int j)) S P E := H
theorem w_eqi (H : P (.bool (decide (i = j))) S) : W (gEq (.int i) (.int j)) S P E := by rw [gEq_ii]; exact H
theorem w_nei (H : P (.bool (!decide (i = j))) S) : W (gNe (.int i) (.int j)) S P E := by rw [gNe_ii]; exact H
theorem w_eqd (e : okD 64 a = true) (e2 : okD 64 b = true) (H : P (.bool (eqD a b)) S) : W (gEq a b) S P E := by rw [gEq_ok e e2]; exact H
theorem w_ned (e : okD 64 a = true) (e2 : okD 64 b = true) (H : P (.bool (!eqD a b)) S) : W (gNe a b) S P E := by rw [gNe_ok e e2]; exact H
theorem w_isB_ttt (H : P (.bool false) S) : W (gIs true (.bool true) (.bool true)) S P E := H
theorem w_isB_ttf (H : P (.bool true) S) : W (gIs true (.bool true) (.bool false)) S P E := H
theorem w_isB_tft (H : P (.bool true) S) : W (gIs true (.bool false) (.bool true)) S P E := H
theorem w_isB_tff (H : P (.bool false) S) : W (gIs true (.bool false) (.bool false)) S P E := H
theorem w_isN_tn (H : P (.bool false) S) : W (gIs true (.none) .none) S P E := H
theorem w_isN_tt (H : P (.bool true) S) : W (gIs true (.tuple ds) .none) S P E := H
theorem w_isN_tl (H : P (.bool true) S) : W (gIs true (.list ds) .none) S P E := H
theorem w_isN_ti (H : P (.bool true) S) : W (gIs true (.int i) .none) S P E := H
theorem w_isN_ts (H : P (.bool true) S) : W (gIs true (.str x) .none) S P E := H
theorem w_isN_tb (H : P (.bool true) S) : W (gIs true (.bool c) .none) S P E := H
theorem w_isB_ftt (H : P (.bool true) S) : W (gIs false (.bool true) (.bool true)) S P E := H
theorem w_isB_ftf (H : P (.bool false) S) : W (gIs false (.bool true) (.bool false)) S P E := H
theorem w_isB_fft (H : P (.bool false) S) : W (gIs false (.bool false) (.bool true)) S P E := H
theorem w_isB_fff (H : P (.bool true) S) : W (gIs false (.bool false) (.bool false)) S P E := H
theorem w_isN_fn (H : P (.bool true) S) : W (gIs false (.none) .none) S P E := H
theorem w_isN_ft (H : P (.bool false) S) : W (gIs false (.tuple ds) .none) S P E := H
theorem w_isN_fl (H : P (.bool false) S) : W (gIs false (.list ds) .none) S P E := H
theorem w_isN_fi (H : P (.bool false) S) : W (gIs false (.int i) .none) S P E := H
theorem w_isN_fs (H : P (.bool false) S) : W (gIs false (.str x) .none) S P E := H
theorem w_isN_fb (H : P (.bool false) S) : W (gIs false (.bool c) .none) S P E := H
theorem w_isN {ng : Bool} (H : P (.bool (ng ^^ isNone a)) S) : W (gIs ng a .none) S P E := H
theorem w_isB {ng q : Bool} (H : P (.bool (ng ^^ decide (c = q))) S) : W (gIs ng (.bool c) (.bool q)) S P E := H
theorem w_ixt (e : atI ds i = some d) (H : P d S) : W (gIx (.tuple ds) (.int i)) S P E := by rw [gIx_t, e]; exact H
theorem w_ixl (e : atI ds i = some d) (H : P d S) : W (gIx (.list ds) (.int i)) S P E := by rw [gIx_l, e]; exact H
theorem w_ixf (e : atI ds i = some d) (H : P d S) : W (gIx (.frz ds) (.int i)) S P E := by rw [gIx_f, e]; exact H
theorem w_len_t (H : P (.int ds.length) S) : W (gLen (.tuple ds)) S P E := H
theorem w_len_l (H : P (.int ds.length) S) : W (gLen (.list ds)) S P E := H
theorem w_len_f (H : P (.int ds.length) S) : W (gLen (.frz ds)) S P E := H
theorem w_tup_t (H : P (.tuple ds) S) : W (gTuple (.tuple ds)) S P E := H
theorem w_tup_l (H : P (.tuple ds) S) : W (gTuple (.list ds)) S P E := H
theorem w_lis_t (H : P (.list ds) S) : W (gList (.tuple ds)) S P E := H
theorem w_lis_l (H : P (.list ds) S) : W (gList (.list ds)) S P E := H
theorem w_rev (H : P (.tuple ds.reverse) S) : W (gRevT (.tuple ds)) S P E := H
theorem w_eSl {lo hi : BO} (H : W (f env) S (fun a S1 => W (lo env) S1 (fun l S2 => W (hi env) S2 (fun r S3 => W (rd a) S3 (fun a S4 => W (gSl a l r) S4 P E) E) E) E) E) : W (eSl f lo hi env) S P E := by rw [eSl_ap, W_bind]; simpa only [W_bind] using H
theorem w_oNone (H : PO none S) : W (oNone env) S PO E := H
theorem w_oSome (H : W (f env) S (fun a S1 => W (toInt a) S1 PO E) E) : W (oSome f env) S PO E := by rw [oSome_ap, W_bind]; exact H
theorem w_toInt (H : PO (some i) S) : W (toInt (.int i)) S PO E := H
theorem w_sl_t {lo hi : Option Int} (H : P (.tuple (cutD ds lo hi)) S) : W (gSl (.tuple ds) lo hi) S P E := H
theorem w_sl_l {lo hi : Option Int} (H : P (.list (cutD ds lo hi)) S) : W (gSl (.list ds) lo hi) S P E := H
theorem w_eApp (H : W (f env) S (fun a S1 => W (isCell a) S1 (fun _ S2 => W (g env) S2 (fun y S3 => W (push a y) S3 P E) E) E) E) : W (eApp f g env) S P E := by rw [eApp_ap, W_bind]; simpa only [W_bind] using H
theorem w_ePop (H : W (f env) S (fun a S1 => W (isCell a) S1 (fun _ S2 => W (g env) S2 (fun y S3 => W (popAt a y) S3 P E) E) E) E) : W (ePop f g env) S P E := by rw [ePop_ap, W_bind]; simpa only [W_bind] using H
theorem w_isCell {PU : Unit → Store → Prop} (H : PU () S) : W (isCell (.cell n)) S PU E := H
theorem w_push (e : S[n]? = some (.lst ds)) (hf : fixD d = true) (hl : ds.length < 1000000) (H : P .none (S.set n (.lst (ds ++ [d])))) : W (push (.cell n) d) S P E := by rw [W_push e hf hl]; exact H
theorem w_eLc {vs : List Nat} {it : BI} {tg : Tg} {tt : BT} (H : W (it env) S (fun p S1 => W (runLc tg tt f (wipeE env vs) p) S1 (fun ds S2 => P (.list ds) S2) E) E) : W (eLc vs it tg tt f env) S P E := by rw [eLc_ap, W_bind]; simpa only [W_bind, W_pure] using H
theorem w_iSeq (H : W (f env) S (fun a S1 => W (toIts a) S1 PI E) E) : W (iSeq f env) S PI E := by rw [iSeq_ap, W_bind]; exact H
theorem w_its_t (H : PI ⟨ds, fun _ => true⟩ S) : W (toIts (.tuple ds)) S PI E := H
theorem w_its_l (H : PI ⟨ds, fun _ => true⟩ S) : W (toIts (.list ds)) S PI E := H
theorem w_iZp (H : W (f env) S (fun a S1 => W (g env) S1 (fun b S2 => W (toZip a b) S2 PI E) E) E) : W (iZp f g env) S PI E := by rw [iZp_ap, W_bind]; simpa only [W_bind] using H
theorem w_zip_tt (H : PI ⟨pairDs ds es, fun _ => true && true⟩ S) : W (toZip (.tuple ds) (.tuple es)) S PI E := H
theorem w_zip_ll (H : PI ⟨pairDs ds es, fun _ => true && true⟩ S) : W (toZip (.list ds) (.list es)) S PI E := H
theorem w_iRg (H : W (f env) S (fun a S1 => W (toRng a) S1 PI E) E) : W (iRg f env) S PI E := by rw [iRg_ap, W_bind]; exact H
theorem w_rng (e : 0 ≤ i ∧ i ≤ 1000000) (H : PI ⟨rangeDs 0 i.toNat, fun _ => true⟩ S) : W (toRng (.int i)) S PI E := by
  obtain ⟨q, rfl⟩ : ∃ q : Nat, i = (q : Int) := ⟨i.toNat, by omega⟩
  rw [toRng_n (by omega)]
  exact H
theorem w_endB (H : P (.bool c) (S.take n)) : W (endT n (.bool c)) S P E := by rw [W_endB]; exact H
theorem w_endI (H : P (.int i) (S.take n)) : W (endT n (.int i)) S P E := by rw [W_endI]; exact H
theorem w_endN (H : P .none (S.take n)) : W (endT n .none) S P E := by rw [W_endT rfl]; exact H
theorem w_endT (e : fixDs ds = true) (H : P (.tuple ds) (S.take n)) : W (endT n (.tuple ds)) S P E := by rw [W_endT (d := .tuple ds) e]; exact H
theorem w_endL (e : fixDs ds = true) (H : P (.list ds) (S.take n)) : W (endT n (.list ds)) S P E := by rw [W_endT (d := .list ds) e]; exact H
theorem ws_nil (H : Pn env S) : WS sNil env S Pn Pr E := H
theorem ws_seq (H : WS s env S (fun v S1 => WS s' v S1 Pn Pr E) Pr E) : WS (sSeq s s') env S Pn Pr E := by rw [WS_seq]; exact H
theorem ws_set (H : W (e env) S (fun a S1 => Pn (env.set n (some a)) S1) E) : WS (sSet n e) env S Pn Pr E := by rw [WS_set]; exact H
theorem ws_expr (H : W (e env) S (fun _ S1 => Pn env S1) E) : WS (sExpr e) env S Pn Pr E := by rw [WS_expr]; exact H
theorem ws_ret (H : W (e env) S Pr E) : WS (sRet e) env S Pn Pr E := by rw [WS_ret]; exact H
theorem ws_retN (H : Pr .none S) : WS sRetN env S Pn Pr E := H
theorem ws_raise (H : E x S) : WS (sRaise x) env S Pn Pr E := H
theorem ws_if (H : W (t env) S (fun b S1 => if b = true then WS s env S1 Pn Pr E else WS s' env S1 Pn Pr E) E) : WS (sIf t s s') env S Pn Pr E := by rw [WS_if]; exact H
theorem ws_par (H : W (e env) S (fun a S1 => W (e' env) S1 (fun b S2 => Pn ((env.set n (some a)).set k (some b)) S2) E) E) : WS (sPar n k e e') env S Pn Pr E := by rw [WS_par]; exact H
theorem ws_par3 {l : Nat} (H : W (e env) S (fun a S1 => W (e' env) S1 (fun b S2 => W (e'' env) S2 (fun c S3 => Pn (((env.set n (some a)).set k (some b)).set l (some c)) S3) E) E) E) : WS (sPar3 n k l e e' e'') env S Pn Pr E := by rw [WS_par3]; exact H
theorem ws_asg {tg : Tg} (H : W (e env) S (fun a S1 => asgO Pn S1 (asg S1 tg a env)) E) : WS (sAsg tg e) env S Pn Pr E := by rw [WS_asg]; exact H
theorem ws_ao {o : Option Ev} {env1 : Ev} (e : o = some env1) (H : Pn env1 S) : asgO Pn S o := by rw [e]; exact H
theorem ws_for {it : BI} {tg : Tg} (H : W (it env) S (fun p S1 => WS (forM p.gd tg s p.ds) env S1 Pn Pr E) E) : WS (sFor it tg s) env S Pn Pr E := by rw [WS_for]; exact H
theorem if_tt {A B : Prop} (H : A) : if true = true then A else B := by simpa using H
theorem if_ff {A B : Prop} (H : B) : if false = true then A else B := by simpa using H
theorem if_ntt {A B : Prop} (H : B) : if (!true) = true then A else B := by simpa using H
theorem if_nff {A B : Prop} (H : A) : if (!false) = true then A else B := by simpa using H
theorem if_dec [Decidable p] {A B : Prop} (H : p → A) (K : ¬ p → B) : if decide p = true then A else B := by
  by_cases h : p
  · simpa [h] using H h
  · simpa [h] using K h
theorem if_ndec [Decidable p] {A B : Prop} (H : p → B) (K : ¬ p → A) : if (!decide p) = true then A else B := by
  by_cases h : p
  · simpa [h] using H h
  · simpa [h] using K h
theorem if_any {A B : Prop} (H : c = true → A) (K : c = false → B) : if c = true then A else B := by
  cases c with
  | true => simpa using H rfl
  | false => simpa using K rfl
theorem if_nany {A B : Prop} (H : c = true → B) (K : c = false → A) : if (!c) = true then A else B := by
  cases c with
  | true => simpa using H rfl
  | false => simpa using K rfl
theorem if_d1 [Decidable p] {A B : Prop} (h : p) (H : A) : if decide p = true then A else B := by simpa [h] using H
theorem if_d0 [Decidable p] {A B : Prop} (h : ¬ p) (H : B) : if decide p = true then A else B := by simpa [h] using H
theorem if_n1 [Decidable p] {A B : Prop} (h : p) (H : B) : if (!decide p) = true then A else B := by simpa [h] using H
theorem if_n0 [Decidable p] {A B : Prop} (h : ¬ p) (H : A) : if (!decide p) = true then A else B := by simpa [h] using H
theorem sm_om {i : Int} (h : -10000000000000000000000000000000000000000 ≤ i ∧ i ≤ 10000000000000000000000000000000000000000) : small i = true := by
  unfold small
  rw [decide_eq_true_iff]
  have h1 : i.natAbs ≤ 10000000000000000000000000000000000000000 := by omega
  have h2 : (10000000000000000000000000000000000000000 : Nat) < 2 ^ 4000 := by decide +kernel
  exact Nat.lt_of_le_of_lt h1 h2
theorem at_0 : atI (a :: ds) 0 = some a := at0
theorem at_1 : atI (a :: b :: ds) 1 = some b := at1
theorem at_2 {c : D} : atI (a :: b :: c :: ds) 2 = some c := at2
theorem at_3 {c c' : D} : atI (a :: b :: c :: c' :: ds) 3 = some c' := by
  unfold atI ixN
  rw [if_pos (by omega), if_pos (by simp; omega)]
  rfl
end
local macro_rules | `(tactic| trivial) => `(tactic| repeat (first
  | with_reducible refine w_bind ?_
  | with_reducible refine w_pure ?_
  | ((with_reducible apply w_var); · rfl)
  | with_reducible refine w_c ?_
  | with_reducible refine w_e2 ?_
  | with_reducible refine w_e1 ?_
  | with_reducible refine w_g2 ?_
  | with_reducible refine w_g1 ?_
  | with_reducible refine w_rd_i ?_
  | with_reducible refine w_rd_b ?_
  | with_reducible refine w_rd_s ?_
  | with_reducible refine w_rd_n ?_
  | with_reducible refine w_rd_t ?_
  | with_reducible refine w_rd_l ?_
  | with_reducible refine w_rd_f ?_
  | with_reducible refine w_rd_fn ?_
  | ((with_reducible apply w_rd_c); · assumption)
  | ((with_reducible apply w_rd_ok); · assumption)
  | with_reducible refine w_aNil ?_
  | with_reducible refine w_aCons ?_
  | with_reducible refine w_eTup ?_
  | with_reducible refine w_eLst ?_
  | with_reducible refine w_eCel ?_
  | ((with_reducible apply w_new); · first | rfl | assumption | (simp; done))
  | ((with_reducible apply len_ok); · rfl)
  | with_reducible refine w_eCall ?_
  | ((with_reducible apply len_eq); · rfl)
  | with_reducible refine w_eCB ?_
  | with_reducible refine w_c1 ?_
  | with_reducible refine w_c2 ?_
  | with_reducible refine w_eAnd ?_
  | with_reducible refine w_eOr ?_
  | with_reducible refine w_eNot ?_
  | with_reducible refine w_toBool ?_
  | with_reducible refine w_eIf ?_
  | with_reducible refine w_bTru ?_
  | with_reducible refine w_tru_b ?_
  | with_reducible refine w_tru_n ?_
  | with_reducible refine w_tru_i ?_
  | with_reducible refine w_tru_t ?_
  | with_reducible refine w_tru_l ?_
  | with_reducible refine w_tB1 ?_
  | with_reducible refine w_oB ?_
  | with_reducible refine w_bNot ?_
  | with_reducible refine w_bAnd ?_
  | with_reducible refine w_bOr ?_
  | with_reducible refine w_bYes ?_
  | with_reducible refine w_eChain ?_
  | with_reducible refine w_eIsi ?_
  | (first | with_reducible refine w_is_int_i ?_ | with_reducible refine w_is_int_t ?_ | with_reducible refine w_is_int_s ?_ | with_reducible refine w_is_int_n ?_ | with_reducible refine w_is_int_l ?_ | with_reducible refine w_is_int_b ?_)
  | ((with_reducible apply w_is_int_ok); · assumption)
  | (first | with_reducible refine w_is_bool_i ?_ | with_reducible refine w_is_bool_t ?_ | with_reducible refine w_is_bool_s ?_ | with_reducible refine w_is_bool_n ?_ | with_reducible refine w_is_bool_l ?_ | with_reducible refine w_is_bool_b ?_)
  | ((with_reducible apply w_is_bool_ok); · assumption)
  | (first | with_reducible refine w_is_str_i ?_ | with_reducible refine w_is_str_t ?_ | with_reducible refine w_is_str_s ?_ | with_reducible refine w_is_str_n ?_ | with_reducible refine w_is_str_l ?_ | with_reducible refine w_is_str_b ?_)
  | ((with_reducible apply w_is_str_ok); · assumption)
  | (first | with_reducible refine w_is_list_i ?_ | with_reducible refine w_is_list_t ?_ | with_reducible refine w_is_list_s ?_ | with_reducible refine w_is_list_n ?_ | with_reducible refine w_is_list_l ?_ | with_reducible refine w_is_list_b ?_)
  | ((with_reducible apply w_is_list_ok); · assumption)
  | (first | with_reducible refine w_is_tuple_i ?_ | with_reducible refine w_is_tuple_t ?_ | with_reducible refine w_is_tuple_s ?_ | with_reducible refine w_is_tuple_n ?_ | with_reducible refine w_is_tuple_l ?_ | with_reducible refine w_is_tuple_b ?_)
  | ((with_reducible apply w_is_tuple_ok); · assumption)
  | with_reducible refine w_add ?_
  | ((with_reducible apply w_addT); · first | omega | (simp; omega) | (simp; done))
  | ((with_reducible apply w_addL); · first | omega | (simp; omega) | (simp; done))
  | ((with_reducible apply w_addC); · first | omega | (simp; omega) | (simp; done))
  | with_reducible refine w_sub ?_
  | with_reducible refine w_addB ?_
  | with_reducible refine w_subB ?_
  | ((with_reducible apply w_mul); (· (first | assumption | (refine sm_om ?_; omega))); · (first | assumption | (refine sm_om ?_; omega)))
  | ((with_reducible apply w_div); (· omega); · (first | assumption | (refine sm_om ?_; omega)))
  | ((with_reducible apply w_mod); · first | omega | assumption)
  | with_reducible refine w_cmp ?_
  | with_reducible refine w_neg ?_
  | with_reducible refine w_abs ?_
  | with_reducible refine w_int ?_
  | with_reducible refine w_max ?_
  | with_reducible refine w_min ?_
  | with_reducible refine w_eqi ?_
  | with_reducible refine w_nei ?_
  | ((with_reducible apply w_eqd); (· first | assumption | (simp; done) | (simp [okDs_cons']; done)); · first | assumption | (simp; done) | (simp [okDs_cons']; done))
  | ((with_reducible apply w_ned); (· first | assumption | (simp; done) | (simp [okDs_cons']; done)); · first | assumption | (simp; done) | (simp [okDs_cons']; done))
  | with_reducible refine w_isB_ttt ?_
  | with_reducible refine w_isB_ttf ?_
  | with_reducible refine w_isB_tft ?_
  | with_reducible refine w_isB_tff ?_
  | with_reducible refine w_isN_tn ?_
  | with_reducible refine w_isN_tt ?_
  | with_reducible refine w_isN_tl ?_
  | with_reducible refine w_isN_ti ?_
  | with_reducible refine w_isN_ts ?_
  | with_reducible refine w_isN_tb ?_
  | with_reducible refine w_isB_ftt ?_
  | with_reducible refine w_isB_ftf ?_
  | with_reducible refine w_isB_fft ?_
  | with_reducible refine w_isB_fff ?_
  | with_reducible refine w_isN_fn ?_
  | with_reducible refine w_isN_ft ?_
  | with_reducible refine w_isN_fl ?_
  | with_reducible refine w_isN_fi ?_
  | with_reducible refine w_isN_fs ?_
  | with_reducible refine w_isN_fb ?_
  | with_reducible refine w_isN ?_
  | with_reducible refine w_isB ?_
  | ((with_reducible apply w_ixt); · first | exact at_0 | exact at_1 | exact at_2 | exact at_3 | assumption)
  | ((with_reducible apply w_ixl); · first | exact at_0 | exact at_1 | exact at_2 | exact at_3 | assumption)
  | ((with_reducible apply w_ixf); · first | exact at_0 | exact at_1 | exact at_2 | exact at_3 | assumption)
  | with_reducible refine w_len_t ?_
  | with_reducible refine w_len_l ?_
  | with_reducible refine w_len_f ?_
  | with_reducible refine w_tup_t ?_
  | with_reducible refine w_tup_l ?_
  | with_reducible refine w_lis_t ?_
  | with_reducible refine w_lis_l ?_
  | with_reducible refine w_rev ?_
  | with_reducible refine w_eSl ?_
  | with_reducible refine w_oNone ?_
  | with_reducible refine w_oSome ?_
  | with_reducible refine w_toInt ?_
  | with_reducible refine w_sl_t ?_
  | with_reducible refine w_sl_l ?_
  | with_reducible refine w_eApp ?_
  | with_reducible refine w_ePop ?_
  | with_reducible refine w_isCell ?_
  | with_reducible refine w_eLc ?_
  | with_reducible refine w_iSeq ?_
  | with_reducible refine w_its_t ?_
  | with_reducible refine w_its_l ?_
  | with_reducible refine w_iZp ?_
  | with_reducible refine w_zip_tt ?_
  | with_reducible refine w_zip_ll ?_
  | with_reducible refine w_iRg ?_
  | ((with_reducible apply w_rng); · first | omega | (simp; omega) | (simp; done))
  | with_reducible refine w_endB ?_
  | with_reducible refine w_endI ?_
  | with_reducible refine w_endN ?_
  | ((with_reducible apply w_endT); · first | rfl | assumption | (simp; done))
  | ((with_reducible apply w_endL); · first | rfl | assumption | (simp; done))
  | with_reducible refine ws_nil ?_
  | with_reducible refine ws_seq ?_
  | with_reducible refine ws_set ?_
  | with_reducible refine ws_expr ?_
  | with_reducible refine ws_ret ?_
  | with_reducible refine ws_retN ?_
  | with_reducible refine ws_raise ?_
  | with_reducible refine ws_if ?_
  | with_reducible refine ws_par ?_
  | with_reducible refine ws_par3 ?_
  | with_reducible refine ws_asg ?_
  | ((with_reducible apply ws_ao); · rfl)
  | with_reducible refine ws_for ?_
  | with_reducible refine if_tt ?_
  | with_reducible refine if_ff ?_
  | with_reducible refine if_ntt ?_
  | with_reducible refine if_nff ?_
  | ((with_reducible apply if_d1); · first | assumption | omega)
  | ((with_reducible apply if_d0); · first | assumption | omega)
  | ((with_reducible apply if_n1); · first | assumption | omega)
  | ((with_reducible apply if_n0); · first | assumption | omega)))
end Z
end
section
set_option maxHeartbeats 4000000
/-! Lambdas handed to defs that call them within lambdas of their own: the base is laid anew. -/
namespace Z
open PySem PySem.Spec PyProof.Rows L2 LamX NdefX

/-- what is there, less what is tracked and the frames -/
def reb (h : Heap) (H : Hp) (l : List Env) : Heap := PySem.W.hideAll h (trk h H ++ frs l)
theorem reb_get {h : Heap} {H : Hp} {l : List Env} {b : Addr} {o : Obj} (e : h.get? b = some o) (n : H b = none) (f : b ∉ frs l) : (reb h H l).get? b = some o :=
  PySem.W.hideAll_get _ e fun hm => by
    rcases List.mem_append.mp hm with hm | hm
    · have q : (H b).isSome = true := (List.mem_filter.mp hm).2
      rw [n] at q; simp at q
    · exact f hm
theorem of_reb {h : Heap} {H : Hp} {l : List Env} {b : Addr} {o : Obj} (e : (reb h H l).get? b = some o) : h.get? b = some o ∧ H b = none ∧ b ∉ frs l := by
  have e' : h.get? b = some o := PySem.W.of_hideAll _ e
  refine ⟨e', ?_, fun hm => ?_⟩
  · cases q : H b with
    | none => rfl
    | some x =>
      have hm : b ∈ trk h H := List.mem_filter.mpr ⟨List.mem_range.mpr (Heap.lt_size e'), by simp [q]⟩
      have z : (reb h H l).get? b = none := PySem.W.hideAll_none _ (List.mem_append_left _ hm)
      rw [z] at e; cases e
  · have z : (reb h H l).get? b = none := PySem.W.hideAll_none _ (List.mem_append_right _ hm)
    rw [z] at e; cases e
theorem reb_frame {h : Heap} {H : Hp} {l : List Env} {b : Addr} (f : b ∈ frs l) : (reb h H l).get? b = none := PySem.W.hideAll_none _ (List.mem_append_right _ f)
theorem reb_size (h : Heap) (H : Hp) (l : List Env) : (reb h H l).objs.size = h.objs.size := PySem.W.hideAll_size _ _
theorem funs_reb {h base : Heap} {H : Hp} {l : List Env} : ∀ {m : List Env}, (∀ e ∈ m, e ∈ l) → h.FunFrames base m → h.FunFrames (reb h H l) m
  | [], _, _ => trivial
  | env :: rest, hs, ⟨hk, ⟨L, o, hf, hn, ho, hd⟩, hr⟩ =>
    ⟨hk, ⟨L, o, hf, reb_frame (List.mem_filterMap.mpr ⟨env, hs env List.mem_cons_self, hf⟩), ho, hd⟩, funs_reb (fun e he => hs e (List.mem_cons_of_mem _ he)) hr⟩
section
variable {X : Cx} {pins : List (Addr × Obj)} {σ : L2.St} {H : Hp} {s : Shared}
theorem reb_base (I : Inv X pins σ H s) : ∀ b o, X.base.get? b = some o → (reb s.heap H X.stack).get? b = some o := fun b o e =>
  reb_get (I.bs b o e).1 (I.bs b o e).2 fun hb => by
    have := (I.stack.mem hb).1
    rw [e] at this; cases this
theorem env0_reb (I : Inv X pins σ H s) : Env0 X.prog X.w X.K X.mg (reb s.heap H X.stack) X.A X.stack s H := by
  have e := I.env0
  have k := reb_base I
  obtain ⟨mb, h1, h2⟩ := e.mod.blt
  have ok := I.ok
  refine ⟨e.frames, ⟨e.mod.kin.keeps k, e.mod.glob.keeps k, ⟨mb, h1.keeps k, h2⟩, e.mod.nolimit.keeps k⟩, fun b o q => ⟨(of_reb q).1, (of_reb q).2.1⟩, by rw [reb_size]; exact Nat.le_refl _, funs_reb (fun _ h => h) e.funs, e.frf, e.hok, e.bare⟩
end
/-- the promise of the lambda at f, which lies in the base -/
structure LamB (P : Program) (w : World) (K : PySem.W.Frag) (mg : Str → Option Value) (base : Heap) (T : Tb) (k : Nat) (f : Addr) (n : Nat) (g : List D → M D) : Prop where
  obj : ∀ h : Heap, (∀ b o, base.get? b = some o → h.get? b = some o) → PySem.W.FnAt f h
  run : ∀ (A : Around) (outer : List Env) (s1 : Shared) (H1 : Hp) (us : List Value) (vs : List V) (Q : VK) (E : XK), Room k A → Env0 P w K mg base A outer s1 H1 → Vals vs us →
    (∃ ds S O, ds.length = n ∧ Rps K mg O.cs (hide O H1) vs ds ∧ SOk K mg T O H1 S ∧ Po K mg T (Rp K mg) (g ds S) O H1 Q E) →
    codeAny (model P w) A (.call (.ref f) ⟨us, []⟩) (CR (L2N.CX P w) outer P w H1 s1 Q E) s1
theorem LamB.mono {P : Program} {w : World} {K : PySem.W.Frag} {mg : Str → Option Value} {base : Heap} {T : Tb} {j k : Nat} {f : Addr} {n : Nat} {g : List D → M D} (F : LamB P w K mg base T j f n g) (h : j ≤ k) : LamB P w K mg base T k f n g :=
  ⟨F.obj, fun A outer s1 H1 us vs Q E hr => F.run A outer s1 H1 us vs Q E (hr.mono h)⟩
section
variable {X : Cx} {pins : List (Addr × Obj)} {σ : L2.St} {H : Hp} {s : Shared} {T : Tb} {O : Ow}
theorem lam_b {N ps fr : List Str} {js : List Nat} {cl : List (Str × Addr)} {q : Str} {params : Arguments} {body : Expr} {scope : Scope} {pm ctv : Value} {f c' : Addr} {env : Ev} {fb : BE} {k : Nat} (I : Inv X pins σ H s) (re : REnv X.K X.mg O.cs (hide O H) σ env) (cp : Caps X cl fr js)
    (hf : s.heap.get? f = some (PySem.W.kla_obj "<lambda>" q params body scope cl pm c' ctv)) (hfn : H f = none) (hfr : f ∉ frs X.stack) (hc : hide O H c' = some (CodeO c' q)) (Sn : NScope N ps fr scope)
    (hcl : ∀ y c, cl.lookup y = some c → c ∉ frs X.stack)
    (hbind : ∀ us : List Value, us.length = ps.length → bindArgs (PySem.W.kla_fn "<lambda>" q params body scope cl pm (.ref c') ctv) ⟨us, []⟩ = pure (ps.zip us))
    (hb : ∀ (base : Heap) (A : Around) (outer : List Env) (s : Shared) (H : Hp) (E : XK), Cok (ncx (L2N.CX X.prog X.w) X.prog X.w X.K X.mg base N ⟨"<lambda>", q, params, [], scope, cl, c'⟩ f A outer s H E) (fun _ => E) k → DE (ncx (L2N.CX X.prog X.w) X.prog X.w X.K X.mg base N ⟨"<lambda>", q, params, [], scope, cl, c'⟩ f A outer s H E) T (fun _ => E) body fb) :
    LamB X.prog X.w X.K X.mg (reb s.heap H X.stack) (T.plus O H) (k + 1) f ps.length (fun as => fb (lamEv N.length js env as)) := by
  have C0 := cells_of I cp
  have fb_ := reb_get (l := X.stack) hf hfn hfr
  refine ⟨fun h1 k => ⟨_, _, _, _, k _ _ fb_⟩, fun A outer s1 H1 us vs Q E hr e0 r h => ?_⟩
  obtain ⟨ds, S, O1, hn, rs, so, qq⟩ := h
  have lw := so.inv.2
  have so : SOk X.K X.mg T O1 H1 S := so.down TLe.plus
  have of1 := (e0.bs _ _ fb_).1
  have C1 : CellsAt cl fr (js.map (slotAt σ)) s1.heap H1 := by
    have cell : ∀ {y c : _} {v : Option Value}, cl.lookup y = some c → s.heap.IsCell c v → s1.heap.IsCell c v := fun {y c v} e z => by
      obtain ⟨o, ho, hd⟩ := z
      exact ⟨o, (e0.bs _ _ (reb_get ho (C0.all y c e).1 (hcl y c e))).1, hd⟩
    refine ⟨C0.len, fun y c e => ?_, C0.inj, fun i y e => ?_⟩
    · obtain ⟨n, v, z⟩ := C0.all y c e
      obtain ⟨o, ho, hd⟩ := id z
      exact ⟨(e0.bs _ _ (reb_get ho n (hcl y c e))).2, v, cell e z⟩
    · obtain ⟨c, hc, hv⟩ := C0.has i y e
      refine ⟨c, hc, fun v ev => ?_⟩
      obtain ⟨x, r, z⟩ := hv v ev
      exact ⟨x, r, cell hc z⟩
  have hc1 : H1 c' = some (CodeO c' q) := (hide_le (lw.same _ _ hc)).2.1
  obtain ⟨⟨oc, vs0, t, hoc, hdc, hvc⟩, _, _⟩ := e0.hok c' _ hc1
  have hl : vs.length = ps.length := by rw [rs.length]; exact hn
  have lim : s1.heap.NoLimit := e0.mod.nolimit.keeps fun b o e => (e0.bs b o e).1
  refine PySem.W.kla_callFunE hr.depth of1 rfl Sn.co Sn.gen rfl ⟨c', oc, vs0, t, rfl, hoc, hdc, hvc⟩ ?_
  rw [hbind us (by rw [← r.length]; exact hl)]
  refine wpAny_pure (wpAny_newFunctionEnv Sn.nocell (fun ⟨n, _⟩ hy => Sn.par n (List.of_mem_zip hy).1) (fun h₁ hns hsb => ⟨lim.fresh _ hsb, ?_⟩) Sn.kind)
  have kp : ∀ b o, s1.heap.get? b = some o → h₁.get? b = some o := fun b o e => hsb.extBut b o (Nat.ne_of_lt (Heap.lt_size e)) (Heap.get?_push_of_some _ e)
  have J : Inv (ncx (L2N.CX X.prog X.w) X.prog X.w X.K X.mg (reb s.heap H X.stack) N ⟨"<lambda>", q, params, [], scope, cl, c'⟩ f A outer s1 H1 E) [] (startF N vs (js.map (slotAt σ))) H1 { s1 with heap := h₁, toks := s1.toks + (ps.zip us).length } :=
    inv_startN (F := ⟨"<lambda>", q, params, [], scope, cl, c'⟩) Sn hr.hd e0 hl r C1 hns kp
  have clen : js.length = fr.length := by
    have := congrArg List.length cp.at_
    simpa using this
  have hpl : ps.length + fr.length ≤ N.length := by
    have q := congrArg List.length Sn.pre
    rw [List.length_take, List.length_append] at q
    omega
  have re1 : REnv X.K X.mg O1.cs (hide O1 H1) (startF N vs (js.map (slotAt σ))) (lamEv N.length js env ds) := by
    refine ⟨by unfold startF lamEv; simp; omega, fun i d e => ?_⟩
    unfold lamEv at e
    unfold startF
    by_cases h1 : i < ds.length
    · rw [List.getElem?_append_left (by simpa using h1), List.getElem?_map] at e
      obtain ⟨d', e1, e2⟩ := Option.map_eq_some_iff.mp e
      cases e2
      obtain ⟨v, h3, h4⟩ := rs.get e1
      exact ⟨v, by rw [List.getElem?_append_left (by simp; omega), List.getElem?_map, h3]; rfl, h4⟩
    · rw [List.getElem?_append_right (by simp; omega), List.length_map] at e
      by_cases h2 : i - ds.length < js.length
      · rw [List.getElem?_append_left (by simpa using h2), List.getElem?_map] at e
        obtain ⟨j, e1, e2⟩ := Option.map_eq_some_iff.mp e
        obtain ⟨v, h3, h4⟩ := re.2 j d (by
          cases q1 : env[j]? with
          | none => rw [q1] at e2; cases e2
          | some o => rw [q1] at e2; cases e2; rfl)
        refine ⟨v, ?_, h4.mono lw.pre lw.same⟩
        rw [List.getElem?_append_right (by simp; omega), List.getElem?_append_left (by simp; omega), List.getElem?_map]
        have e3 : vs.length = ds.length := rs.length
        rw [List.length_map, e3, e1]
        exact congrArg some (slotAt_of h3)
      · rw [List.getElem?_append_right (by simp; omega), List.getElem?_replicate] at e
        split at e <;> cases e
  have qq : Po X.K X.mg T (Rp X.K X.mg) ((fun as => fb (lamEv N.length js env as)) ds S) O1 H1 Q E := Po.down (T' := T.plus O H) (by assumption) TLe.plus qq
  refine PySem.W.kla_codeExpr (wpAny_mono ((hb _ A outer s1 H1 E (cok_lam Sn (hr.deeper _))).pe.run [] _ _ H1 Q J ⟨_, S, O1, re1, so, qq⟩) (fun v s' hq => ?_) fun e s' hq => hq)
  obtain ⟨w', H', J', rv, q⟩ := hq
  exact ⟨w', H', J'.os, J'.bare, J'.base, J'.hok, rv, q⟩
end
section
variable {X : Cx} {T : Tb} {E : XKs} {k j : Nat}
theorem callB_run {f : Addr} {n : Nat} {g : List D → M D} (F : LamB X.prog X.w X.K X.mg X.base T j f n g) (c : Cok X E k) (hj : j ≤ k)
    {pins : List (Addr × Obj)} {σ : L2.St} {H : Hp} {s : Shared} {us : List Value} {vs : List V} {as : List D} {S : Store} {O : Ow} {Q : VK} (I : Inv X pins σ H s) (r : Vals vs us) (rs : Rps X.K X.mg O.cs (hide O H) vs as) (so : SOk X.K X.mg T O H S)
    (q : Po X.K X.mg T (Rp X.K X.mg) ((if as.length = n then g as else no : M D) S) O H Q (E σ)) : wpAny (model X.prog X.w) X.A (call (.ref f) us) (EP X pins σ Q) X.xe s := by
  by_cases hn : as.length = n
  · rw [if_pos hn] at q
    refine wpAny_call (codeAny_mono (F.run X.A X.stack s H us vs Q (E σ) (c.room.mono hj) I.env0 r ⟨as, S, O, hn, rs, so, q⟩) fun r s' hq => ?_)
    cases r with
    | error e => exact c.pass σ pins H s e s' I hq
    | ok fl =>
      cases fl with
      | ret u => exact I.after hq
      | next => exact False.elim hq
      | brk => exact False.elim hq
      | cont => exact False.elim hq
  · rw [if_neg hn] at q
    exact q.elim
theorem de_callLB {f : Addr} {n : Nat} {g : List D → M D} {a : Str} {v : BE} {e : Expr} {es : List Expr} {fs : BA} {p pos : Pos} (F : LamB X.prog X.w X.K X.mg X.base T j f n g) (c : Cok X E k) (hv : DE X T E (.Name a p) v) (ha : DA X T E (e :: es) fs) (hj : j ≤ k)
    (he : starEach (e :: es) X.env = (false, eval e X.env) :: starEach es X.env := by rfl) (hpl : (backTo pos (starEach es X.env)).any (·.1) = false := by rfl) :
    DE X T E (.Call (.Name a p) (e :: es) [] pos) (eCallV f n g v fs) := by
  refine ⟨⟨fun pins s σ H Q I h => ?_⟩⟩
  obtain ⟨env, S, O, re, so, q⟩ := h
  refine wpAny_Call_Name_kw (thn (hv.pe.run pins s σ H (fun x H1 => x = .ref f ∧ ∃ O1 S1, Le O H O1 H1 ∧ SOk X.K X.mg T O1 H1 S1 ∧ Po X.K X.mg T (Rp X.K X.mg) ((fs env >>= fun as => if as.length = n then g as else no) S1) O1 H1 Q (E σ)) I ⟨env, S, O, re, so, Po.bind q fun d S1 O1 H1 x l s1 r1 q1 => ?_⟩) fun u s1 ⟨x, H1, I1, r1, ev, O1, S1, l, so1, q1⟩ => ?_)
  · obtain ⟨e, q2⟩ := po_adr r1 q1
    exact ⟨e, O1, S1, l, s1, q2⟩
  · subst ev
    obtain rfl : u = Value.ref f := r1
    refine PySem.W.callWith_F (F.obj _ I1.bk) (thn (ha.pa.run pos pins s1 σ H1 (fun vs H2 => ∃ as S2 O2, Rps X.K X.mg O2.cs (hide O2 H2) vs as ∧ SOk X.K X.mg T O2 H2 S2 ∧ Po X.K X.mg T (Rp X.K X.mg) ((if as.length = n then g as else no : M D) S2) O2 H2 Q (E σ)) I1 ⟨env, S1, O1, re.mono l, so1, Po.bind q1 fun as S2 O2 H2 xs l2 s2 r2 q2 => ⟨as, S2, O2, r2, s2, q2⟩⟩) fun us s2 ⟨vs, H2, I2, r2, as, S2, O2, rs, so2, q2⟩ => ⟨F.obj _ I2.bk, ?_⟩) he hpl
    exact callB_run F c hj I2 r2 rs so2 q2
end
/-- as HFn, the lambda in a base laid anew -/
structure HFnB (P : Program) (w : World) (K : PySem.W.Frag) (mg : Str → Option Value) (base : Heap) (T : Tb) (k : Nat) (x : Str) (n m : Nat) (G : (List D → M D) → List D → M D) : Prop where
  ex : ∃ fa fd ps, mg x = some (.ref fa) ∧ PySem.W.keepIn K (.ref fa) = true ∧ Binds K fd ps [] ∧ ps.length = n + 1 ∧
    ∀ (base' : Heap) (A : Around) (outer : List Env) (s : Shared) (H : Hp) (f : Addr) (g : List D → M D) (O : Ow) (S : Store) (us : List Value) (vs : List V) (ds : List D) (Q : VK) (E : XK) (args : Args), (∀ b o, base.get? b = some o → base'.get? b = some o) → Room (k + 4) A → Env0 P w K mg base' A outer s H → LamB P w K mg base' (T.plus O H) (k + 1) f m g →
      BindsTo s fd args (ps.zip (.ref f :: us)) → Vals vs us → ds.length = n → Rps K mg O.cs (hide O H) vs ds → SOk K mg T O H S → Po K mg T (Rp K mg) (G g ds S) O H Q E → codeAny (model P w) A (.call (.ref fa) args) (CR (L2N.CX P w) outer P w H s Q E) s
section
variable {P : Program} {w : World} {K : PySem.W.Frag} {mg : Str → Option Value} {base : Heap} {T : Tb} {k : Nat} {x : Str}
theorem hfnB_def {n m : Nat} {st : Stmt} {f : Addr} {fd : FuncData} {N ps : List Str} {G : (List D → M D) → List D → M D} {ι : Type} {td : Bool} {b : ι → Addr → (List D → M D) → BS}
    (F : L2.Fun K x x st f fd) (S : FnScope N ps (defScope st)) (hm : mg x = some (.ref f)) (hb : Binds K fd ps []) (hn : ps.length = n + 1)
    (body : ∀ (base' : Heap) (i : ι) (fl : Addr) (g : List D → M D) (cdv : Value) (A : Around) (outer : List Env) (s : Shared) (H : Hp) (E : XK) (O0 : Ow), (∀ b o, base.get? b = some o → base'.get? b = some o) → fd.code = cdv → LamB P w K mg base' (T.plus O0 H) (k + 1) fl m g →
      Cok (cxOf (L2N.CX P w) P w K mg base' N x (defScope st) f cdv A outer s H E) (fun _ => E) (k + 3) → DSs (cxOf (L2N.CX P w) P w K mg base' N x (defScope st) f cdv A outer s H E) (T.plus O0 H) (fun _ => E) (defBody st) (b i fl g))
    (hg : ∀ fl g ds S0, ds.length = n → G g ds S0 ≠ .no → ∃ i, fnOf td N.length (b i fl g) (.adr fl :: ds) S0 = G g ds S0) : HFnB P w K mg base T k x n m G := by
  refine ⟨f, fd, ps, hm, F.kp, hb, hn, ?_⟩
  obtain ⟨oc, od, kV, doc, pm, an, cdv, ct, osl, rfl, lk, hcd⟩ := F.ex
  intro base' A outer s H fl g O S0 us vs ds Q E args hbb hr e0 lp hbd rv hds rs so q
  obtain ⟨i, ei⟩ := hg fl g ds S0 hds fun z => by rw [z] at q; exact q
  rw [← ei] at q
  have hpl : ps.length ≤ N.length := by have := congrArg List.length S.pre; rw [List.length_take] at this; omega
  have soP : SOk K mg (T.plus O H) O H S0 := so.up TLe.plus ⟨so.inv, Lw.refl⟩
  have rs2 : Rps K mg O.cs (hide O H) (V.ref fl :: vs) (D.adr fl :: ds) := .cons (.adr fl) rs
  refine LamX.run_ofS (us := .ref fl :: us) (vs := .ref fl :: vs) lk hcd S hr e0 hbd (.cons rfl rv) (by rw [List.length_cons, rs.length, hds, hn]) fun hr' => ?_
  have dss := body base' i fl g cdv A outer s H E O hbb rfl lp (cok_def S hr')
  refine ⟨_, dss.pss, (D.adr fl :: ds).map some ++ List.replicate (N.length - (D.adr fl :: ds).length) none, S0, O, renv_start rs2 (by rw [List.length_cons, hds]; omega), soP, ?_⟩
  have q : Po K mg (T.plus O H) (Rp K mg) (endF td S0.length (b i fl g ((D.adr fl :: ds).map some ++ List.replicate (N.length - (D.adr fl :: ds).length) none) S0)) O H Q E := Po.up TLe.plus q
  show PoS K mg (T.plus O H) (b i fl g ((D.adr fl :: ds).map some ++ List.replicate (N.length - (D.adr fl :: ds).length) none) S0) O H { nx := fun _ H' => Q .non H', rt := Q } (fun _ => E)
  cases eb : b i fl g ((D.adr fl :: ds).map some ++ List.replicate (N.length - (D.adr fl :: ds).length) none) S0 with
  | next env S' =>
    rw [eb] at q
    intro O' H' σ' l so' re
    unfold endF at q
    dsimp only at q
    split at q
    · exact q (O'.cut S0.length) H' .non (le_cut soP l) (sok_cut soP l so') .non
    · exact q O' H' .non l so' .non
  | ret d S' =>
    rw [eb] at q
    intro O' H' v l so' rv
    unfold endF at q
    dsimp only at q
    split at q
    · exact endT_ok soP l so' rv q
    · exact q O' H' v l so' rv
  | err c env S' =>
    rw [eb] at q
    exact fun O' H' σ' C l so' _ z => q O' H' C l so' z
  | brk env S' => rw [eb] at q; exact (show False from q).elim
  | cont env S' => rw [eb] at q; exact (show False from q).elim
  | no => rw [eb] at q; exact q
end
section
variable {X : Cx} {T : Tb} {E : XKs} {k j : Nat}
theorem de_hofB {n : Nat} {G : (List D → M D) → List D → M D} {N ps fr : List Str} {js : List Nat} {x : Str} {params : Arguments} {body : Expr} {scope : Scope} {es : List Expr} {fb : BE} {fs : BA} {cc Pt : Addr} {p lpos pos : Pos} (F : HFnB X.prog X.w X.K X.mg X.base T k x n ps.length G) (c : Cok X E (k + 4)) (hN : ∀ b ∈ X.fs, b ∈ frs X.stack)
    (TB : TabB X.base X.mg cc Pt) (hcode : X.env.code = .ref cc) (hmT : (Pt, X.env.qual ++ "<lambda>") ∈ T.tabs) (hu : ∀ p ∈ T.tabs, p.1 = Pt → p.2 = X.env.qual ++ "<lambda>") (Sn : NScope N ps fr scope)
    (hfree : ∀ y ∈ scope.names, y.2 = .free → X.env.scope.names.lookup y.1 = some .cell ∨ X.env.scope.names.lookup y.1 = some .free) (hown : ∀ y ∈ scope.names, y.2 = .free → X.fn y.1 = true) (hfr : ∀ y ∈ fr, (y, NameKind.free) ∈ scope.names) (hjs : js.map (fun j => X.N[j]?) = fr.map some)
    (hbind : ∀ (q : Str) (cl : List (Str × Addr)) (pm cv ctv : Value) (us : List Value), us.length = ps.length → bindArgs (PySem.W.kla_fn "<lambda>" q params body scope cl pm cv ctv) ⟨us, []⟩ = pure (ps.zip us))
    (hb : ∀ (base : Heap) (f c' : Addr) (A : Around) (outer : List Env) (s : Shared) (H : Hp) (E : XK), Cok (ncx (L2N.CX X.prog X.w) X.prog X.w X.K X.mg base N ⟨"<lambda>", X.env.qual ++ "<lambda>", params, [], scope, cloFrom X.env.cells scope.names [], c'⟩ f A outer s H E) (fun _ => E) k → DE (ncx (L2N.CX X.prog X.w) X.prog X.w X.K X.mg base N ⟨"<lambda>", X.env.qual ++ "<lambda>", params, [], scope, cloFrom X.env.cells scope.names [], c'⟩ f A outer s H E) T (fun _ => E) body fb)
    (ha : DA X T E es fs) (hdef : defaultsOf params X.env = ([], []) := by rfl) (hg : Gl X x := by rfl) (hdb : (x == ("__debug__" : Str)) = false := by decide)
    (h1 : starEach (.Lambda params body scope lpos :: es) X.env = (false, eval (.Lambda params body scope lpos) X.env) :: starEach es X.env := by rfl) (hpl : (backTo pos (starEach es X.env)).any (·.1) = false := by rfl) :
    DE X T E (.Call (.Name x p) (.Lambda params body scope lpos :: es) [] pos) (eHof n N.length js fb G fs) := by
  obtain ⟨fa, fd, psx, hm, hk, hbd, hps, run⟩ := F.ex
  refine ⟨⟨fun pins s σ H Q I h => ?_⟩⟩
  obtain ⟨env, S, O, re, so, q⟩ := h
  refine wpAny_Call_Name_kw (ld_glob I hg hm ?_ hdb)
  refine PySem.W.callWith_K (h₀ := X.base) I.ok.mod.kin hk ?_ h1 hpl
  rw [h1]
  have hcf : ∀ y ∈ scope.names, y.2 = .free → ∃ c, X.env.cells.lookup y.1 = some c := fun y hy e => (hfree y hy e).elim (fun z => I.ok.has _ (.inl z)) fun z => I.ok.has _ (.inr z)
  refine Calls.spliced_cons (lam_make2 I TB hcode hmT hu so.tabs hdef hcf fun f c' pm' ctv H1 s' I1 eN T1 hf hfn hfr' hco => ?_)
  have l1 : Le O H O H1 := Le.ext eN
  have so1 : SOk X.K X.mg T O H1 S := sok_ext so eN T1
  have re1 := re.mono l1
  have hcH := code_hide so1 hco
  have nL : f ≠ X.env.locals := fun z => by
    obtain ⟨m, ⟨ob, es0, ep, ho, hd0, _⟩, _⟩ := I1.loc
    rw [← z, hf] at ho
    cases ho
    cases hd0
  have nS : f ∉ X.fs := fun z => hfr' (hN f z)
  have I2 : Inv X ((f, PySem.W.kla_obj "<lambda>" (X.env.qual ++ "<lambda>") params body scope (cloFrom X.env.cells scope.names []) pm' c' ctv) :: pins) σ H1 s' := I1.pins_of fun p hp => by
    rcases List.mem_cons.mp hp with e | hp
    · subst e
      exact ⟨hf, hfn, nL, nS, fun v z => by cases z⟩
    · exact I1.pin p (List.mem_append_right _ hp)
  refine thn (ha.pa.run pos _ s' σ H1 (fun vs H2 => ∃ ds S2 O2, Le O H1 O2 H2 ∧ Rps X.K X.mg O2.cs (hide O2 H2) vs ds ∧ SOk X.K X.mg T O2 H2 S2 ∧ Po X.K X.mg T (Rp X.K X.mg) ((if ds.length = n then G (fun as => fb (lamEv N.length js env as)) ds else no : M D) S2) O2 H2 Q (E σ)) I2 ⟨env, S, O, re1, so1, Po.bind (Po.le q l1) fun ds S2 O2 H2 xs l2 s2 r2 q2 => ⟨ds, S2, O2, l2, r2, s2, q2⟩⟩) fun us s2 ⟨vs, H2, I3, rv, ds, S2, O2, l2, rs, so2, q2⟩ => ⟨I3.kIn, ?_⟩
  by_cases hn : ds.length = n
  · rw [if_pos hn] at q2
    have P1 := I3.pin (f, _) (List.mem_append_right _ List.mem_cons_self)
    have I4 : Inv X pins σ H2 s2 := I3.pins_of fun p hp => I3.pin p (List.mem_append_right _ (List.mem_cons_of_mem _ hp))
    have hcl : ∀ y c, (cloFrom X.env.cells scope.names []).lookup y = some c → c ∉ frs X.stack := fun y c e hm => by
      have e1 := clo_cm hcf e
      have e2 : X.fn y = true := by
        rcases cloFrom_mem (PySem.mem_of_lookup e) with z | ⟨z, _⟩
        · cases z
        · exact hown _ z rfl
      have hge := I4.ok.cab y c e2 e1
      rcases List.mem_cons.mp (I4.stkSub c hm) with z | z
      · exact I4.cne y c e1 z
      · obtain ⟨_, o, ho, _⟩ := I4.ok.funs.mem z
        exact absurd (Nat.lt_of_lt_of_le (Heap.lt_size ho) hge) (Nat.lt_irrefl _)
    have lp := lam_b (T := T) (k := k) (fb := fb) I4 (re1.mono l2) (Caps.made I4.ok hfree hfr hjs) P1.1 P1.2.1 hfr' (l2.same _ _ hcH) Sn hcl (hbind _ _ _ _ _) (fun base A outer s H E hc => hb base f c' A outer s H E hc)
    have b := hbd s2 (.ref f :: us) I3.kIn (by rw [List.append_nil, List.length_cons, ← rv.length, rs.length, hn, hps])
    rw [List.append_nil] at b
    refine wpAny_call (codeAny_mono (run _ X.A X.stack s2 H2 f _ O2 S2 us vs ds Q (E σ) ⟨.ref f :: us, []⟩ (reb_base I4) c.room (env0_reb I4) lp b rv hn rs so2 q2) fun r s3 hq => ?_)
    cases r with
    | error e => exact c.pass σ pins H2 s2 e s3 I4 hq
    | ok fl =>
      cases fl with
      | ret u => exact I4.after hq
      | next => exact False.elim hq
      | brk => exact False.elim hq
      | cont => exact False.elim hq
  · rw [if_neg hn] at q2
    exact q2.elim
end
section
variable {X : Cx} {T : Tb} {E : XKs} {k j : Nat}
theorem de_hofC {n : Nat} {G : (List D → M D) → List D → M D} {N ps fr : List Str} {js : List Nat} {x : Str} {params : Arguments} {body : Expr} {scope : Scope} {es : List Expr} {fb : BE} {fs : BA} {cc Pt : Addr} {p lpos pos : Pos} (F : HFn X.prog X.w X.K X.mg X.base T (k + 1) x n ps.length G) (c : Cok X E (k + 2)) (hN : ∀ b ∈ X.fs, b ∈ frs X.stack)
    (TB : TabB X.base X.mg cc Pt) (hcode : X.env.code = .ref cc) (hmT : (Pt, X.env.qual ++ "<lambda>") ∈ T.tabs) (hu : ∀ p ∈ T.tabs, p.1 = Pt → p.2 = X.env.qual ++ "<lambda>") (Sn : NScope N ps fr scope)
    (hfree : ∀ y ∈ scope.names, y.2 = .free → X.env.scope.names.lookup y.1 = some .cell ∨ X.env.scope.names.lookup y.1 = some .free) (hfr : ∀ y ∈ fr, (y, NameKind.free) ∈ scope.names) (hjs : js.map (fun j => X.N[j]?) = fr.map some)
    (hbind : ∀ (q : Str) (cl : List (Str × Addr)) (pm cv ctv : Value) (us : List Value), us.length = ps.length → bindArgs (PySem.W.kla_fn "<lambda>" q params body scope cl pm cv ctv) ⟨us, []⟩ = pure (ps.zip us))
    (hb : ∀ (f c' : Addr) (A : Around) (outer : List Env) (s : Shared) (H : Hp) (E : XK), Cok (ncx (L2N.CX X.prog X.w) X.prog X.w X.K X.mg X.base N ⟨"<lambda>", X.env.qual ++ "<lambda>", params, [], scope, cloFrom X.env.cells scope.names [], c'⟩ f A outer s H E) (fun _ => E) k → DE (ncx (L2N.CX X.prog X.w) X.prog X.w X.K X.mg X.base N ⟨"<lambda>", X.env.qual ++ "<lambda>", params, [], scope, cloFrom X.env.cells scope.names [], c'⟩ f A outer s H E) T (fun _ => E) body fb)
    (ha : DA X T E es fs) (hdef : defaultsOf params X.env = ([], []) := by rfl) (hg : Gl X x := by rfl) (hdb : (x == ("__debug__" : Str)) = false := by decide)
    (h1 : starEach (.Lambda params body scope lpos :: es) X.env = (false, eval (.Lambda params body scope lpos) X.env) :: starEach es X.env := by rfl) (hpl : (backTo pos (starEach es X.env)).any (·.1) = false := by rfl) :
    DE X T E (.Call (.Name x p) (.Lambda params body scope lpos :: es) [] pos) (eHof n N.length js fb G fs) := by
  obtain ⟨fa, fd, psx, hm, hk, hbd, hps, run⟩ := F.ex
  refine ⟨⟨fun pins s σ H Q I h => ?_⟩⟩
  obtain ⟨env, S, O, re, so, q⟩ := h
  refine wpAny_Call_Name_kw (ld_glob I hg hm ?_ hdb)
  refine PySem.W.callWith_K (h₀ := X.base) I.ok.mod.kin hk ?_ h1 hpl
  rw [h1]
  refine Calls.spliced_cons (lam_make2 I TB hcode hmT hu so.tabs hdef (fun y hy e => (hfree y hy e).elim (fun z => I.ok.has _ (.inl z)) fun z => I.ok.has _ (.inr z)) fun f c' pm' ctv H1 s' I1 eN T1 hf hfn hfr' hco => ?_)
  have l1 : Le O H O H1 := Le.ext eN
  have so1 : SOk X.K X.mg T O H1 S := sok_ext so eN T1
  have re1 := re.mono l1
  have hcH := code_hide so1 hco
  have nL : f ≠ X.env.locals := fun z => by
    obtain ⟨m, ⟨ob, es0, ep, ho, hd0, _⟩, _⟩ := I1.loc
    rw [← z, hf] at ho
    cases ho
    cases hd0
  have nS : f ∉ X.fs := fun z => hfr' (hN f z)
  have I2 : Inv X ((f, PySem.W.kla_obj "<lambda>" (X.env.qual ++ "<lambda>") params body scope (cloFrom X.env.cells scope.names []) pm' c' ctv) :: pins) σ H1 s' := I1.pins_of fun p hp => by
    rcases List.mem_cons.mp hp with e | hp
    · subst e
      exact ⟨hf, hfn, nL, nS, fun v z => by cases z⟩
    · exact I1.pin p (List.mem_append_right _ hp)
  refine thn (ha.pa.run pos _ s' σ H1 (fun vs H2 => ∃ ds S2 O2, Le O H1 O2 H2 ∧ Rps X.K X.mg O2.cs (hide O2 H2) vs ds ∧ SOk X.K X.mg T O2 H2 S2 ∧ Po X.K X.mg T (Rp X.K X.mg) ((if ds.length = n then G (fun as => fb (lamEv N.length js env as)) ds else no : M D) S2) O2 H2 Q (E σ)) I2 ⟨env, S, O, re1, so1, Po.bind (Po.le q l1) fun ds S2 O2 H2 xs l2 s2 r2 q2 => ⟨ds, S2, O2, l2, r2, s2, q2⟩⟩) fun us s2 ⟨vs, H2, I3, rv, ds, S2, O2, l2, rs, so2, q2⟩ => ⟨I3.kIn, ?_⟩
  by_cases hn : ds.length = n
  · rw [if_pos hn] at q2
    have P1 := I3.pin (f, _) (List.mem_append_right _ List.mem_cons_self)
    have I4 : Inv X pins σ H2 s2 := I3.pins_of fun p hp => I3.pin p (List.mem_append_right _ (List.mem_cons_of_mem _ hp))
    have lp := lam_p (T := T) (k := k) (fb := fb) I4 (re1.mono l2) (Caps.made I4.ok hfree hfr hjs) P1.1 P1.2.1 hfr' (l2.same _ _ hcH) Sn (hbind _ _ _ _ _) (fun A outer s H E hc => hb f c' A outer s H E hc)
    have b := hbd s2 (.ref f :: us) I3.kIn (by rw [List.append_nil, List.length_cons, ← rv.length, rs.length, hn, hps])
    rw [List.append_nil] at b
    refine wpAny_call (codeAny_mono (run X.A X.stack s2 H2 f _ O2 S2 us vs ds Q (E σ) ⟨.ref f :: us, []⟩ c.room I4.env0 lp b rv hn rs so2 q2) fun r s3 hq => ?_)
    cases r with
    | error e => exact c.pass σ pins H2 s2 e s3 I4 hq
    | ok fl =>
      cases fl with
      | ret u => exact I4.after hq
      | next => exact False.elim hq
      | brk => exact False.elim hq
      | cont => exact False.elim hq
  · rw [if_neg hn] at q2
    exact q2.elim
theorem frs_def (hN : X.stack = X.env :: X.outer) : ∀ b ∈ X.fs, b ∈ frs X.stack := fun b z => by
  rw [hN]
  obtain ⟨e, he, q⟩ := List.mem_filterMap.mp z
  exact List.mem_filterMap.mpr ⟨e, List.mem_cons_of_mem _ he, q⟩
end
theorem tabB_mono {base base' : Heap} {mg : Str → Option Value} {c P : Addr} (h : TabB base mg c P) (k : ∀ b o, base.get? b = some o → base'.get? b = some o) : TabB base' mg c P := ⟨h.code.keeps k, h.bm.keeps k, h.gP⟩
/-- where a def's code object lies -/
def CodeAt (K : PySem.W.Frag) (mg : Str → Option Value) (x : Str) (st : Stmt) (cc : Addr) : Prop := ∀ (f : Addr) (fd : FuncData), mg x = some (.ref f) → L2.Fun K x x st f fd → fd.code = .ref cc
/-- the scope of the comprehension in: return [..] == .. -/
def blkScope (b : List Stmt) (d : Scope) : Scope := match b with
  | [.Return (some (.Compare (.ListComp _ _ sc _) _ _ _)) _] => sc
  | _ => d
/-- what a call refuses: for each value the error's name -/
def refM (Ge : (List D → M D) → List D → M D) (g : List D → M D) (nm : D) : List D → List D → M (List D)
  | [], acc => pure acc
  | d :: ds, acc => fun S => match (Ge (fun _ => g [d]) [] >>= fun r => g2 gNe r nm) S with
    | .ok (.bool true) S' => refM Ge g nm ds (acc ++ [d]) S'
    | .ok (.bool false) S' => refM Ge g nm ds acc S'
    | _ => .no
def G_refused (Ge : (List D → M D) → List D → M D) (g : List D → M D) (ds : List D) : M D := fun S => match ds with
  | [.list xs, nm] => if xs.length ≤ 1000000 then (match (refM Ge g nm xs [] >>= fun r => g2 gEq (.list r) (.list [])) S with
    | .ok d S' => endT S.length d S'
    | .err c S' => .err c S'
    | .no => .no) else .no
  | _ => .no
end Z
end
section
set_option maxHeartbeats 4000000
/-! The end of a law with several defs that make lambdas. -/
namespace Z
open PySem PySem.Spec PyProof.Rows L2
theorem codeAt_of {K : PySem.W.Frag} {mg : Str → Option Value} {x : Str} {st : Stmt} (hm : mg x = some (.ref (He.ga K x))) : CodeAt K mg x st (He.cT K (x, none)).1 := fun f fd e F => by
  rw [hm] at e
  cases e
  obtain ⟨oc, od, kV, doc, pm, an, cdv, ct, osl, rfl, lk, hcd⟩ := F.ex
  obtain ⟨c', rfl⟩ := He.codeIn_ref hcd
  have e : He.codeOf K (x, none) = c' := He.codeOf_eq (p := (x, none)) lk rfl
  show Value.ref c' = .ref (He.codeOf K (x, none))
  rw [e]
/-- L: code object, its table, the lambda's name -/
theorem law_ats {l : PySem.W.OpenLaw} {w : World} {K : PySem.W.Frag} {k : Nat} {x : Str} {st : Stmt} {mg : Str → Option Value} {fa : Addr} {h : Heap} {g : List D → M D} {fd : FuncData} (KX : K.In h) (F : FunD K "law" "law" (defArgs st) (defBody st) (defScope st) [] [] fa fd) (hb : BindEq "law" st [x])
    (L : List (Addr × Addr × Str)) (he : ∀ p ∈ L, h.get? p.2.1 = some { cls := .none, data := .fields #[] }) (ho : ∀ p ∈ L, K.lookup p.2.1 = none) (hh : ∀ p ∈ L, PySem.W.codeHdIn K p.1 p.2.1 = true)
    (law : ∀ base : Heap, K.In base → (∀ p ∈ L, LamX.TabB base mg p.1 p.2.1) → FnOk l.prog w K mg base (L2N.CX l.prog w) k fa fd [x] (spD K mg (tbOf (L.map fun p => p.2)) 1 g))
    (plain : ∀ ns : List Int, ns.length ≤ 63 → ∃ S, g [script ns] [] = .ok (.bool true) S) : LamX.LawAtS l w K (L2N.CX l.prog w) k 63 x mg fa h := by
  refine ⟨fd, L.map (fun p => (p.1, p.2.1)), _, ?_, ?_, ?_, fun s u => ?_, fun H a ns hl _ hH hS => sp_start (ts := L.map fun p => p.2) ?_ hS (plain ns hl), fun base hK _ hT => law base hK fun p hp => hT (p.1, p.2.1) (List.mem_map.mpr ⟨p, hp, rfl⟩)⟩
  · intro p hp
    obtain ⟨q, hq, rfl⟩ := List.mem_map.mp hp
    exact he q hq
  · intro p hp
    obtain ⟨q, hq, rfl⟩ := List.mem_map.mp hp
    exact ho q hq
  · intro p hp
    obtain ⟨q, hq, rfl⟩ := List.mem_map.mp hp
    exact PySem.W.codeHd_of_K KX (hh q hq)
  · exact F.bindsA (ps := [x]) hb s [u] rfl
  · intro p hp
    obtain ⟨q, hq, rfl⟩ := List.mem_map.mp hp
    exact hH (q.1, q.2.1) (List.mem_map.mpr ⟨q, hq, rfl⟩)
end Z
end
section
set_option maxHeartbeats 4000000
/-! Backward steps as instances. -/
namespace Z
open PySem PySem.Spec L2
class WSt (goal : Prop) (next : outParam Prop) : Prop where
  h : next → goal
class GetE (env : Ev) (n : Nat) (d : outParam D) : Prop where
  h : env[n]? = some (some d)
class SetE (env : Ev) (n : Nat) (d : D) (env' : outParam Ev) : Prop where
  h : env.set n (some d) = env'
instance g_z {d : D} {env : Ev} : GetE (some d :: env) 0 d := ⟨rfl⟩
instance g_s {o : Option D} {n : Nat} {d : D} {env : Ev} [h : GetE env n d] : GetE (o :: env) (n + 1) d := ⟨h.h⟩
instance s_z {o : Option D} {d : D} {env : Ev} : SetE (o :: env) 0 d (some d :: env) := ⟨rfl⟩
instance s_s {o : Option D} {n : Nat} {d : D} {env env' : Ev} [h : SetE env n d env'] : SetE (o :: env) (n + 1) d (o :: env') := ⟨by rw [List.set_cons_succ, h.h]⟩
instance s_w {n k : Nat} {a b : D} {env env' env'' : Ev} [h : SetE env n a env'] [h' : SetE env' k b env''] : SetE (env.set n (some a)) k b env'' := ⟨by rw [h.h, h'.h]⟩

class AsgE (t : Tg) (d : D) (env : Ev) (env' : outParam Ev) : Prop where
  h : ∀ S, asg S t d env = some env'
class AsgsE (ts : List Tg) (ds : List D) (env : Ev) (env' : outParam Ev) : Prop where
  h : ∀ S, asgs S ts ds env = some env'
instance a_n {i : Nat} {d : D} {env env' : Ev} [h : SetE env i d env'] : AsgE (.name i) d env env' := ⟨fun S => by rw [asg, h.h]⟩
instance a_t {ts : List Tg} {ds : List D} {env env' : Ev} [h : AsgsE ts ds env env'] : AsgE (.tup ts) (.tuple ds) env env' := ⟨fun S => by rw [asg]; exact h.h S⟩
instance a_l {ts : List Tg} {ds : List D} {env env' : Ev} [h : AsgsE ts ds env env'] : AsgE (.tup ts) (.list ds) env env' := ⟨fun S => by rw [asg]; exact h.h S⟩
instance as_n {env : Ev} : AsgsE [] [] env env := ⟨fun S => rfl⟩
instance as_c {t : Tg} {ts : List Tg} {d : D} {ds : List D} {env env' env'' : Ev} [h : AsgE t d env env'] [k : AsgsE ts ds env' env''] : AsgsE (t :: ts) (d :: ds) env env'' := ⟨fun S => by rw [asgs, h.h S]; exact k.h S⟩
section
variable {α β : Type} {m : M α} {F : α → M β} {S : Store} {P : D → Store → Prop} {PB : Bool → Store → Prop} {PA : List D → Store → Prop} {PO : Option Int → Store → Prop} {PI : Its → Store → Prop} {Q : β → Store → Prop} {R : α → Store → Prop} {E : Str → Store → Prop}
  {env env' : Ev} {f g h : BE} {t u : BT} {fs : BA} {i j : Int} {n k : Nat} {d a b : D} {ds es : List D} {Pn : Ev → Store → Prop} {Pr : D → Store → Prop} {s s' : BS} {e e' e'' : BE} {c : Bool} {x y : Str} {p : Prop}
instance i_var [z : GetE env n d] : WSt (W (eVar n env) S P E) (P d S) := ⟨fun H => w_var z.h H⟩
instance (priority := 2000) i_set [z : SetE env n a env'] : WSt (WS s (env.set n (some a)) S Pn Pr E) (WS s env' S Pn Pr E) := ⟨fun H => by rw [z.h]; exact H⟩
instance i_ao {tg : Tg} [z : AsgE tg d env env'] : WSt (asgO Pn S (asg S tg d env)) (Pn env' S) := ⟨fun H => by rw [z.h]; exact H⟩
instance i_ix0t {xs : List D} : WSt (W (gIx (.tuple (d :: xs)) (.int 0)) S P E) (P d S) := ⟨fun H => w_ixt at_0 H⟩
instance i_ix1t {xs : List D} : WSt (W (gIx (.tuple (a :: d :: xs)) (.int 1)) S P E) (P d S) := ⟨fun H => w_ixt at_1 H⟩
instance i_ix2t {xs : List D} : WSt (W (gIx (.tuple (a :: b :: d :: xs)) (.int 2)) S P E) (P d S) := ⟨fun H => w_ixt at_2 H⟩
instance i_ix0l {xs : List D} : WSt (W (gIx (.list (d :: xs)) (.int 0)) S P E) (P d S) := ⟨fun H => w_ixl at_0 H⟩
instance i_ix1l {xs : List D} : WSt (W (gIx (.list (a :: d :: xs)) (.int 1)) S P E) (P d S) := ⟨fun H => w_ixl at_1 H⟩
instance i_ix2l {xs : List D} : WSt (W (gIx (.list (a :: b :: d :: xs)) (.int 2)) S P E) (P d S) := ⟨fun H => w_ixl at_2 H⟩
class LenE (ds : List D) (n : outParam Nat) : Prop where
  h : ds.length = n
instance l_n : LenE [] 0 := ⟨rfl⟩
instance l_c {x : D} {n : Nat} [h : LenE ds n] : LenE (x :: ds) (n + 1) := ⟨by rw [List.length_cons, h.h]⟩
instance i_leq {A : Prop} [z : LenE ds n] : WSt (ds.length = n ∧ A) A := ⟨fun H => ⟨z.h, H⟩⟩

instance i_w_bind : WSt (W (m >>= F) S Q E) (W m S (fun a S' => W (F a) S' Q E) E) := ⟨fun H => w_bind H⟩
instance i_w_pure {a : α} : WSt (W (pure a) S R E) (R a S) := ⟨fun H => w_pure H⟩
instance i_w_c : WSt (W (eC d env) S P E) (P d S) := ⟨fun H => w_c H⟩
instance i_w_e2 {o : D → D → M D} : WSt (W (e2 o f g env) S P E) (W (f env) S (fun a S1 => W (g env) S1 (fun b S2 => W (o a b) S2 P E) E) E) := ⟨fun H => w_e2 H⟩
instance i_w_e1 {o : D → M D} : WSt (W (e1 o f env) S P E) (W (f env) S (fun a S1 => W (o a) S1 P E) E) := ⟨fun H => w_e1 H⟩
instance i_w_g2 {o : D → D → M D} : WSt (W (g2 o a b) S P E) (W (rd a) S (fun a S1 => W (rd b) S1 (fun b S2 => W (o a b) S2 P E) E) E) := ⟨fun H => w_g2 H⟩
instance i_w_g1 {o : D → M D} : WSt (W (g1 o a) S P E) (W (rd a) S (fun a S1 => W (o a) S1 P E) E) := ⟨fun H => w_g1 H⟩
instance i_w_rd_i : WSt (W (rd (.int i)) S P E) (P (.int i) S) := ⟨fun H => w_rd_i H⟩
instance i_w_rd_b : WSt (W (rd (.bool c)) S P E) (P (.bool c) S) := ⟨fun H => w_rd_b H⟩
instance i_w_rd_s : WSt (W (rd (.str x)) S P E) (P (.str x) S) := ⟨fun H => w_rd_s H⟩
instance i_w_rd_n : WSt (W (rd (.none)) S P E) (P (.none) S) := ⟨fun H => w_rd_n H⟩
instance i_w_rd_t : WSt (W (rd (.tuple ds)) S P E) (P (.tuple ds) S) := ⟨fun H => w_rd_t H⟩
instance i_w_rd_l : WSt (W (rd (.list ds)) S P E) (P (.list ds) S) := ⟨fun H => w_rd_l H⟩
instance i_w_rd_f : WSt (W (rd (.frz ds)) S P E) (P (.frz ds) S) := ⟨fun H => w_rd_f H⟩
instance i_w_rd_fn : WSt (W (rd (.fn x)) S P E) (P (.fn x) S) := ⟨fun H => w_rd_fn H⟩
instance i_w_aNil : WSt (W (aNil env) S PA E) (PA [] S) := ⟨fun H => w_aNil H⟩
instance i_w_aCons : WSt (W (aCons f fs env) S PA E) (W (f env) S (fun a S1 => W (fs env) S1 (fun as S2 => PA (a :: as) S2) E) E) := ⟨fun H => w_aCons H⟩
instance i_w_eTup : WSt (W (eTup fs env) S P E) (W (fs env) S (fun as S1 => as.length ≤ 1000000 ∧ P (.tuple as) S1) E) := ⟨fun H => w_eTup H⟩
instance i_w_eLst : WSt (W (eLst fs env) S P E) (W (fs env) S (fun as S1 => as.length ≤ 1000000 ∧ P (.list as) S1) E) := ⟨fun H => w_eLst H⟩
instance i_w_eCel : WSt (W (eCel fs env) S P E) (W (fs env) S (fun as S1 => as.length ≤ 1000000 ∧ W (newCell as) S1 P E) E) := ⟨fun H => w_eCel H⟩
instance i_w_eCall {r : List D → M D} : WSt (W (eCall n r fs env) S P E) (W (fs env) S (fun as S1 => as.length = n ∧ W (r as) S1 P E) E) := ⟨fun H => w_eCall H⟩
instance i_w_eCB {r : List D → M D} : WSt (W (eCB r fs env) S P E) (W (fs env) S (fun as S1 => W (r as) S1 P E) E) := ⟨fun H => w_eCB H⟩
instance i_w_c1 {o : D → M D} : WSt (W (c1 o [a]) S P E) (W (rd a) S (fun a S1 => W (o a) S1 P E) E) := ⟨fun H => w_c1 H⟩
instance i_w_c2 {o : D → D → M D} : WSt (W (c2 o [a, b]) S P E) (W (rd a) S (fun a S1 => W (rd b) S1 (fun b S2 => W (o a b) S2 P E) E) E) := ⟨fun H => w_c2 H⟩
instance i_w_eAnd : WSt (W (eAnd f g env) S P E) (W (f env) S (fun a S1 => W (toBool a) S1 (fun b S2 => if b = true then W (g env) S2 P E else P (.bool false) S2) E) E) := ⟨fun H => w_eAnd H⟩
instance i_w_eOr : WSt (W (eOr f g env) S P E) (W (f env) S (fun a S1 => W (toBool a) S1 (fun b S2 => if b = true then P (.bool true) S2 else W (g env) S2 P E) E) E) := ⟨fun H => w_eOr H⟩
instance i_w_eNot : WSt (W (eNot f env) S P E) (W (f env) S (fun a S1 => W (toBool a) S1 (fun b S2 => P (.bool (!b)) S2) E) E) := ⟨fun H => w_eNot H⟩
instance i_w_toBool : WSt (W (toBool (.bool c)) S PB E) (PB c S) := ⟨fun H => w_toBool H⟩
instance i_w_eIf : WSt (W (eIf t f g env) S P E) (W (t env) S (fun b S1 => if b = true then W (f env) S1 P E else W (g env) S1 P E) E) := ⟨fun H => w_eIf H⟩
instance i_w_bTru : WSt (W (bTru f env) S PB E) (W (f env) S (fun a S1 => W (tru a) S1 PB E) E) := ⟨fun H => w_bTru H⟩
instance i_w_tru_b : WSt (W (tru (.bool c)) S PB E) (PB c S) := ⟨fun H => w_tru_b H⟩
instance i_w_tru_n : WSt (W (tru .none) S PB E) (PB false S) := ⟨fun H => w_tru_n H⟩
instance i_w_tru_i : WSt (W (tru (.int i)) S PB E) (PB (i != 0) S) := ⟨fun H => w_tru_i H⟩
instance i_w_tru_t : WSt (W (tru (.tuple ds)) S PB E) (PB (!ds.isEmpty) S) := ⟨fun H => w_tru_t H⟩
instance i_w_tru_l : WSt (W (tru (.list ds)) S PB E) (PB (!ds.isEmpty) S) := ⟨fun H => w_tru_l H⟩
instance i_w_tB1 : WSt (W (tB1 f env) S PB E) (W (f env) S (fun a S1 => W (oB a) S1 PB E) E) := ⟨fun H => w_tB1 H⟩
instance i_w_oB : WSt (W (oB (.bool c)) S PB E) (PB c S) := ⟨fun H => w_oB H⟩
instance i_w_bNot : WSt (W (bNot t env) S PB E) (W (t env) S (fun b S1 => PB (!b) S1) E) := ⟨fun H => w_bNot H⟩
instance i_w_bAnd : WSt (W (bAnd t u env) S PB E) (W (t env) S (fun b S1 => if b = true then W (u env) S1 PB E else PB false S1) E) := ⟨fun H => w_bAnd H⟩
instance i_w_bOr : WSt (W (bOr t u env) S PB E) (W (t env) S (fun b S1 => if b = true then PB true S1 else W (u env) S1 PB E) E) := ⟨fun H => w_bOr H⟩
instance i_w_bYes : WSt (W (bYes env) S PB E) (PB true S) := ⟨fun H => w_bYes H⟩
instance i_w_eChain {o o' : D → D → M D} : WSt (W (eChain o o' f g h env) S P E) (W (f env) S (fun a S1 => W (g env) S1 (fun b S2 => W (o a b) S2 (fun z S3 => W (toBool z) S3 (fun c S4 => if c = true then W (h env) S4 (fun c S5 => W (o' b c) S5 P E) E else P (.bool false) S4) E) E) E) E) := ⟨fun H => w_eChain H⟩
instance i_w_eIsi {ty : String} : WSt (W (eIsi ty f env) S P E) (W (f env) S (fun a S1 => W (rd a) S1 (fun a S2 => W (gIsi ty a) S2 P E) E) E) := ⟨fun H => w_eIsi H⟩
instance i_w_is_int_i : WSt (W (gIsi "int" (.int i)) S P E) (P (.bool true) S) := ⟨fun H => w_is_int_i H⟩
instance i_w_is_int_b : WSt (W (gIsi "int" (.bool c)) S P E) (P (.bool true) S) := ⟨fun H => w_is_int_b H⟩
instance i_w_is_int_s : WSt (W (gIsi "int" (.str x)) S P E) (P (.bool false) S) := ⟨fun H => w_is_int_s H⟩
instance i_w_is_int_n : WSt (W (gIsi "int" (.none)) S P E) (P (.bool false) S) := ⟨fun H => w_is_int_n H⟩
instance i_w_is_int_t : WSt (W (gIsi "int" (.tuple ds)) S P E) (P (.bool false) S) := ⟨fun H => w_is_int_t H⟩
instance i_w_is_int_l : WSt (W (gIsi "int" (.list ds)) S P E) (P (.bool false) S) := ⟨fun H => w_is_int_l H⟩
instance i_w_is_bool_i : WSt (W (gIsi "bool" (.int i)) S P E) (P (.bool false) S) := ⟨fun H => w_is_bool_i H⟩
instance i_w_is_bool_b : WSt (W (gIsi "bool" (.bool c)) S P E) (P (.bool true) S) := ⟨fun H => w_is_bool_b H⟩
instance i_w_is_bool_s : WSt (W (gIsi "bool" (.str x)) S P E) (P (.bool false) S) := ⟨fun H => w_is_bool_s H⟩
instance i_w_is_bool_n : WSt (W (gIsi "bool" (.none)) S P E) (P (.bool false) S) := ⟨fun H => w_is_bool_n H⟩
instance i_w_is_bool_t : WSt (W (gIsi "bool" (.tuple ds)) S P E) (P (.bool false) S) := ⟨fun H => w_is_bool_t H⟩
instance i_w_is_bool_l : WSt (W (gIsi "bool" (.list ds)) S P E) (P (.bool false) S) := ⟨fun H => w_is_bool_l H⟩
instance i_w_is_str_i : WSt (W (gIsi "str" (.int i)) S P E) (P (.bool false) S) := ⟨fun H => w_is_str_i H⟩
instance i_w_is_str_b : WSt (W (gIsi "str" (.bool c)) S P E) (P (.bool false) S) := ⟨fun H => w_is_str_b H⟩
instance i_w_is_str_s : WSt (W (gIsi "str" (.str x)) S P E) (P (.bool true) S) := ⟨fun H => w_is_str_s H⟩
instance i_w_is_str_n : WSt (W (gIsi "str" (.none)) S P E) (P (.bool false) S) := ⟨fun H => w_is_str_n H⟩
instance i_w_is_str_t : WSt (W (gIsi "str" (.tuple ds)) S P E) (P (.bool false) S) := ⟨fun H => w_is_str_t H⟩
instance i_w_is_str_l : WSt (W (gIsi "str" (.list ds)) S P E) (P (.bool false) S) := ⟨fun H => w_is_str_l H⟩
instance i_w_is_list_i : WSt (W (gIsi "list" (.int i)) S P E) (P (.bool false) S) := ⟨fun H => w_is_list_i H⟩
instance i_w_is_list_b : WSt (W (gIsi "list" (.bool c)) S P E) (P (.bool false) S) := ⟨fun H => w_is_list_b H⟩
instance i_w_is_list_s : WSt (W (gIsi "list" (.str x)) S P E) (P (.bool false) S) := ⟨fun H => w_is_list_s H⟩
instance i_w_is_list_n : WSt (W (gIsi "list" (.none)) S P E) (P (.bool false) S) := ⟨fun H => w_is_list_n H⟩
instance i_w_is_list_t : WSt (W (gIsi "list" (.tuple ds)) S P E) (P (.bool false) S) := ⟨fun H => w_is_list_t H⟩
instance i_w_is_list_l : WSt (W (gIsi "list" (.list ds)) S P E) (P (.bool true) S) := ⟨fun H => w_is_list_l H⟩
instance i_w_is_tuple_i : WSt (W (gIsi "tuple" (.int i)) S P E) (P (.bool false) S) := ⟨fun H => w_is_tuple_i H⟩
instance i_w_is_tuple_b : WSt (W (gIsi "tuple" (.bool c)) S P E) (P (.bool false) S) := ⟨fun H => w_is_tuple_b H⟩
instance i_w_is_tuple_s : WSt (W (gIsi "tuple" (.str x)) S P E) (P (.bool false) S) := ⟨fun H => w_is_tuple_s H⟩
instance i_w_is_tuple_n : WSt (W (gIsi "tuple" (.none)) S P E) (P (.bool false) S) := ⟨fun H => w_is_tuple_n H⟩
instance i_w_is_tuple_t : WSt (W (gIsi "tuple" (.tuple ds)) S P E) (P (.bool true) S) := ⟨fun H => w_is_tuple_t H⟩
instance i_w_is_tuple_l : WSt (W (gIsi "tuple" (.list ds)) S P E) (P (.bool false) S) := ⟨fun H => w_is_tuple_l H⟩
instance i_w_add : WSt (W (gAdd (.int i) (.int j)) S P E) (P (.int (i + j)) S) := ⟨fun H => w_add H⟩
instance i_w_sub : WSt (W (gSub (.int i) (.int j)) S P E) (P (.int (i - j)) S) := ⟨fun H => w_sub H⟩
instance i_w_addB : WSt (W (gAdd (.bool c) (.int j)) S P E) (P (.int (b2n c + j)) S) := ⟨fun H => w_addB H⟩
instance i_w_subB : WSt (W (gSub (.bool c) (.int j)) S P E) (P (.int (b2n c - j)) S) := ⟨fun H => w_subB H⟩
instance i_w_cmp {q : Int → Int → Bool} : WSt (W (gCmp q (.int i) (.int j)) S P E) (P (.bool (q i j)) S) := ⟨fun H => w_cmp H⟩
instance i_w_neg : WSt (W (gNeg (.int i)) S P E) (P (.int (-i)) S) := ⟨fun H => w_neg H⟩
instance i_w_abs : WSt (W (gAbs (.int i)) S P E) (P (.int (if i < 0 then -i else i)) S) := ⟨fun H => w_abs H⟩
instance i_w_int : WSt (W (gInt (.int i)) S P E) (P (.int i) S) := ⟨fun H => w_int H⟩
instance i_w_max : WSt (W (gMax2 (.int i) (.int j)) S P E) (P (.int (if j > i then j else i)) S) := ⟨fun H => w_max H⟩
instance i_w_min : WSt (W (gMin2 (.int i) (.int j)) S P E) (P (.int (if j < i then j else i)) S) := ⟨fun H => w_min H⟩
instance i_w_eqi : WSt (W (gEq (.int i) (.int j)) S P E) (P (.bool (decide (i = j))) S) := ⟨fun H => w_eqi H⟩
instance i_w_nei : WSt (W (gNe (.int i) (.int j)) S P E) (P (.bool (!decide (i = j))) S) := ⟨fun H => w_nei H⟩
instance i_w_isB_ttt : WSt (W (gIs true (.bool true) (.bool true)) S P E) (P (.bool false) S) := ⟨fun H => w_isB_ttt H⟩
instance i_w_isB_ttf : WSt (W (gIs true (.bool true) (.bool false)) S P E) (P (.bool true) S) := ⟨fun H => w_isB_ttf H⟩
instance i_w_isB_tft : WSt (W (gIs true (.bool false) (.bool true)) S P E) (P (.bool true) S) := ⟨fun H => w_isB_tft H⟩
instance i_w_isB_tff : WSt (W (gIs true (.bool false) (.bool false)) S P E) (P (.bool false) S) := ⟨fun H => w_isB_tff H⟩
instance i_w_isN_tn : WSt (W (gIs true (.none) .none) S P E) (P (.bool false) S) := ⟨fun H => w_isN_tn H⟩
instance i_w_isN_tt : WSt (W (gIs true (.tuple ds) .none) S P E) (P (.bool true) S) := ⟨fun H => w_isN_tt H⟩
instance i_w_isN_tl : WSt (W (gIs true (.list ds) .none) S P E) (P (.bool true) S) := ⟨fun H => w_isN_tl H⟩
instance i_w_isN_ti : WSt (W (gIs true (.int i) .none) S P E) (P (.bool true) S) := ⟨fun H => w_isN_ti H⟩
instance i_w_isN_ts : WSt (W (gIs true (.str x) .none) S P E) (P (.bool true) S) := ⟨fun H => w_isN_ts H⟩
instance i_w_isN_tb : WSt (W (gIs true (.bool c) .none) S P E) (P (.bool true) S) := ⟨fun H => w_isN_tb H⟩
instance i_w_isB_ftt : WSt (W (gIs false (.bool true) (.bool true)) S P E) (P (.bool true) S) := ⟨fun H => w_isB_ftt H⟩
instance i_w_isB_ftf : WSt (W (gIs false (.bool true) (.bool false)) S P E) (P (.bool false) S) := ⟨fun H => w_isB_ftf H⟩
instance i_w_isB_fft : WSt (W (gIs false (.bool false) (.bool true)) S P E) (P (.bool false) S) := ⟨fun H => w_isB_fft H⟩
instance i_w_isB_fff : WSt (W (gIs false (.bool false) (.bool false)) S P E) (P (.bool true) S) := ⟨fun H => w_isB_fff H⟩
instance i_w_isN_fn : WSt (W (gIs false (.none) .none) S P E) (P (.bool true) S) := ⟨fun H => w_isN_fn H⟩
instance i_w_isN_ft : WSt (W (gIs false (.tuple ds) .none) S P E) (P (.bool false) S) := ⟨fun H => w_isN_ft H⟩
instance i_w_isN_fl : WSt (W (gIs false (.list ds) .none) S P E) (P (.bool false) S) := ⟨fun H => w_isN_fl H⟩
instance i_w_isN_fi : WSt (W (gIs false (.int i) .none) S P E) (P (.bool false) S) := ⟨fun H => w_isN_fi H⟩
instance i_w_isN_fs : WSt (W (gIs false (.str x) .none) S P E) (P (.bool false) S) := ⟨fun H => w_isN_fs H⟩
instance i_w_isN_fb : WSt (W (gIs false (.bool c) .none) S P E) (P (.bool false) S) := ⟨fun H => w_isN_fb H⟩
instance (priority := low) i_w_isN {ng : Bool} : WSt (W (gIs ng a .none) S P E) (P (.bool (ng ^^ isNone a)) S) := ⟨fun H => w_isN H⟩
instance (priority := low) i_w_isB {ng q : Bool} : WSt (W (gIs ng (.bool c) (.bool q)) S P E) (P (.bool (ng ^^ decide (c = q))) S) := ⟨fun H => w_isB H⟩
instance i_w_len_t : WSt (W (gLen (.tuple ds)) S P E) (P (.int ds.length) S) := ⟨fun H => w_len_t H⟩
instance i_w_len_l : WSt (W (gLen (.list ds)) S P E) (P (.int ds.length) S) := ⟨fun H => w_len_l H⟩
instance i_w_len_f : WSt (W (gLen (.frz ds)) S P E) (P (.int ds.length) S) := ⟨fun H => w_len_f H⟩
instance i_w_tup_t : WSt (W (gTuple (.tuple ds)) S P E) (P (.tuple ds) S) := ⟨fun H => w_tup_t H⟩
instance i_w_tup_l : WSt (W (gTuple (.list ds)) S P E) (P (.tuple ds) S) := ⟨fun H => w_tup_l H⟩
instance i_w_lis_t : WSt (W (gList (.tuple ds)) S P E) (P (.list ds) S) := ⟨fun H => w_lis_t H⟩
instance i_w_lis_l : WSt (W (gList (.list ds)) S P E) (P (.list ds) S) := ⟨fun H => w_lis_l H⟩
instance i_w_rev : WSt (W (gRevT (.tuple ds)) S P E) (P (.tuple ds.reverse) S) := ⟨fun H => w_rev H⟩
instance i_w_eSl {lo hi : BO} : WSt (W (eSl f lo hi env) S P E) (W (f env) S (fun a S1 => W (lo env) S1 (fun l S2 => W (hi env) S2 (fun r S3 => W (rd a) S3 (fun a S4 => W (gSl a l r) S4 P E) E) E) E) E) := ⟨fun H => w_eSl H⟩
instance i_w_oNone : WSt (W (oNone env) S PO E) (PO none S) := ⟨fun H => w_oNone H⟩
instance i_w_oSome : WSt (W (oSome f env) S PO E) (W (f env) S (fun a S1 => W (toInt a) S1 PO E) E) := ⟨fun H => w_oSome H⟩
instance i_w_toInt : WSt (W (toInt (.int i)) S PO E) (PO (some i) S) := ⟨fun H => w_toInt H⟩
instance i_w_sl_t {lo hi : Option Int} : WSt (W (gSl (.tuple ds) lo hi) S P E) (P (.tuple (cutD ds lo hi)) S) := ⟨fun H => w_sl_t H⟩
instance i_w_sl_l {lo hi : Option Int} : WSt (W (gSl (.list ds) lo hi) S P E) (P (.list (cutD ds lo hi)) S) := ⟨fun H => w_sl_l H⟩
instance i_w_eApp : WSt (W (eApp f g env) S P E) (W (f env) S (fun a S1 => W (isCell a) S1 (fun _ S2 => W (g env) S2 (fun y S3 => W (push a y) S3 P E) E) E) E) := ⟨fun H => w_eApp H⟩
instance i_w_ePop : WSt (W (ePop f g env) S P E) (W (f env) S (fun a S1 => W (isCell a) S1 (fun _ S2 => W (g env) S2 (fun y S3 => W (popAt a y) S3 P E) E) E) E) := ⟨fun H => w_ePop H⟩
instance i_w_isCell {PU : Unit → Store → Prop} : WSt (W (isCell (.cell n)) S PU E) (PU () S) := ⟨fun H => w_isCell H⟩
instance i_w_eLc {vs : List Nat} {it : BI} {tg : Tg} {tt : BT} : WSt (W (eLc vs it tg tt f env) S P E) (W (it env) S (fun p S1 => W (runLc tg tt f (wipeE env vs) p) S1 (fun ds S2 => P (.list ds) S2) E) E) := ⟨fun H => w_eLc H⟩
instance i_w_iSeq : WSt (W (iSeq f env) S PI E) (W (f env) S (fun a S1 => W (toIts a) S1 PI E) E) := ⟨fun H => w_iSeq H⟩
instance i_w_its_t : WSt (W (toIts (.tuple ds)) S PI E) (PI ⟨ds, fun _ => true⟩ S) := ⟨fun H => w_its_t H⟩
instance i_w_its_l : WSt (W (toIts (.list ds)) S PI E) (PI ⟨ds, fun _ => true⟩ S) := ⟨fun H => w_its_l H⟩
instance i_w_iZp : WSt (W (iZp f g env) S PI E) (W (f env) S (fun a S1 => W (g env) S1 (fun b S2 => W (toZip a b) S2 PI E) E) E) := ⟨fun H => w_iZp H⟩
instance i_w_zip_tt : WSt (W (toZip (.tuple ds) (.tuple es)) S PI E) (PI ⟨pairDs ds es, fun _ => true && true⟩ S) := ⟨fun H => w_zip_tt H⟩
instance i_w_zip_ll : WSt (W (toZip (.list ds) (.list es)) S PI E) (PI ⟨pairDs ds es, fun _ => true && true⟩ S) := ⟨fun H => w_zip_ll H⟩
instance i_w_iRg : WSt (W (iRg f env) S PI E) (W (f env) S (fun a S1 => W (toRng a) S1 PI E) E) := ⟨fun H => w_iRg H⟩
instance i_w_endB : WSt (W (endT n (.bool c)) S P E) (P (.bool c) (S.take n)) := ⟨fun H => w_endB H⟩
instance i_w_endI : WSt (W (endT n (.int i)) S P E) (P (.int i) (S.take n)) := ⟨fun H => w_endI H⟩
instance i_w_endN : WSt (W (endT n .none) S P E) (P .none (S.take n)) := ⟨fun H => w_endN H⟩
instance i_ws_nil : WSt (WS sNil env S Pn Pr E) (Pn env S) := ⟨fun H => ws_nil H⟩
instance i_ws_seq : WSt (WS (sSeq s s') env S Pn Pr E) (WS s env S (fun v S1 => WS s' v S1 Pn Pr E) Pr E) := ⟨fun H => ws_seq H⟩
instance i_ws_set : WSt (WS (sSet n e) env S Pn Pr E) (W (e env) S (fun a S1 => Pn (env.set n (some a)) S1) E) := ⟨fun H => ws_set H⟩
instance i_ws_expr : WSt (WS (sExpr e) env S Pn Pr E) (W (e env) S (fun _ S1 => Pn env S1) E) := ⟨fun H => ws_expr H⟩
instance i_ws_ret : WSt (WS (sRet e) env S Pn Pr E) (W (e env) S Pr E) := ⟨fun H => ws_ret H⟩
instance i_ws_retN : WSt (WS sRetN env S Pn Pr E) (Pr .none S) := ⟨fun H => ws_retN H⟩
instance i_ws_raise : WSt (WS (sRaise x) env S Pn Pr E) (E x S) := ⟨fun H => ws_raise H⟩
instance i_ws_if : WSt (WS (sIf t s s') env S Pn Pr E) (W (t env) S (fun b S1 => if b = true then WS s env S1 Pn Pr E else WS s' env S1 Pn Pr E) E) := ⟨fun H => ws_if H⟩
instance i_ws_par : WSt (WS (sPar n k e e') env S Pn Pr E) (W (e env) S (fun a S1 => W (e' env) S1 (fun b S2 => Pn ((env.set n (some a)).set k (some b)) S2) E) E) := ⟨fun H => ws_par H⟩
instance i_ws_par3 {l : Nat} : WSt (WS (sPar3 n k l e e' e'') env S Pn Pr E) (W (e env) S (fun a S1 => W (e' env) S1 (fun b S2 => W (e'' env) S2 (fun c S3 => Pn (((env.set n (some a)).set k (some b)).set l (some c)) S3) E) E) E) := ⟨fun H => ws_par3 H⟩
instance i_ws_asg {tg : Tg} : WSt (WS (sAsg tg e) env S Pn Pr E) (W (e env) S (fun a S1 => asgO Pn S1 (asg S1 tg a env)) E) := ⟨fun H => ws_asg H⟩
instance i_ws_for {it : BI} {tg : Tg} : WSt (WS (sFor it tg s) env S Pn Pr E) (W (it env) S (fun p S1 => WS (forM p.gd tg s p.ds) env S1 Pn Pr E) E) := ⟨fun H => ws_for H⟩
instance i_if_tt {A B : Prop} : WSt (if true = true then A else B) (A) := ⟨fun H => if_tt H⟩
instance i_if_ff {A B : Prop} : WSt (if false = true then A else B) (B) := ⟨fun H => if_ff H⟩
instance i_if_ntt {A B : Prop} : WSt (if (!true) = true then A else B) (B) := ⟨fun H => if_ntt H⟩
instance i_if_nff {A B : Prop} : WSt (if (!false) = true then A else B) (A) := ⟨fun H => if_nff H⟩
end
end Z
end
section
set_option maxHeartbeats 4000000
namespace Z
open PySem PySem.Spec PyProof.Rows L2
abbrev mainBody : List Stmt := PySem.Challenge.pw_anyaim_k02_shots_of_told_rays.main.body
def top (i : Nat) : Stmt := PySem.Challenge.pw_anyaim_k02_shots_of_told_rays.main.body.getD i (.Pass ⟨0, 0, 0, 0⟩)
/-- bounds of loops -/
def fu0 (_ : List D) : Nat := 0
def fu2 : List D → Nat
  | [_, .int b] => b.natAbs + 2
  | _ => 0
def fu3 (_ : List D) : Nat := 1000000
structure GF (K : PySem.W.Frag) (mg : Str → Option Value) : Prop where
  z_ValueError : mg "ValueError" = none
  z_abs : mg "abs" = none
  z_all : mg "all" = none
  z_bool : mg "bool" = none
  z_int : mg "int" = none
  z_isinstance : mg "isinstance" = none
  z_len : mg "len" = none
  z_list : mg "list" = none
  z_max : mg "max" = none
  z_min : mg "min" = none
  z_range : mg "range" = none
  z_sorted : mg "sorted" = none
  z_str : mg "str" = none
  z_tuple : mg "tuple" = none
  z_zip : mg "zip" = none
  i_GREATEST : ∃ t, mg "GREATEST" = some (.int 1000000 t)
  x_InvalidHall : Ex K mg "InvalidHall"
  x_InvalidRay : Ex K mg "InvalidRay"
  x_InvalidWord : Ex K mg "InvalidWord"
  x_InvalidWall : Ex K mg "InvalidWall"
  x_InvalidPaper : Ex K mg "InvalidPaper"
  x_InvalidFacts : Ex K mg "InvalidFacts"
  x_InvalidDeed : Ex K mg "InvalidDeed"
  x_InvalidText : Ex K mg "InvalidText"
  x_Unlike : Ex K mg "Unlike"
  x_NothingToUndo : Ex K mg "NothingToUndo"
  c_AimError : ∃ B, mg "AimError" = some (.ref B)
  ec : Errs K mg ["InvalidHall", "InvalidRay", "InvalidWord", "InvalidWall", "InvalidPaper", "InvalidFacts", "InvalidDeed", "InvalidText", "Unlike", "NothingToUndo"]
  f__law_cell : DefOk K mg "_law_cell" (top 37) ["_law_script", "_law_k"]
  f__law_draws : DefOk K mg "_law_draws" (top 38) ["_law_script", "_law_k", "_law_many", "_law_base"]
  f__law_bag : DefOk K mg "_law_bag" (top 39) ["_law_script", "_law_k"]
  f__law_take : DefOk K mg "_law_take" (top 40) ["_law_bag_here", "_law_many"]
  f__law_choice : DefOk K mg "_law_choice" (top 41) ["_law_bag_here", "_law_some"]
  f__law_hall : DefOk K mg "_law_hall" (top 44) ["_law_bag_here", "_law_most"]
  f_is_row : DefOk K mg "is_row" (top 18) ["value", "low", "high"]
  f_is_whole : DefOk K mg "is_whole" (top 17) ["value", "low", "high"]
  f_is_wall : DefOk K mg "is_wall" (top 19) ["high", "end", "value"]
  f_is_hall : DefOk K mg "is_hall" (top 20) ["value"]
  f_need_hall : DefOk K mg "need_hall" (top 26) ["hall"]
  f_is_within : DefOk K mg "is_within" (top 23) ["hall", "ray"]
  f_divisor_of : DefOk K mg "divisor_of" (top 13) ["one", "other"]
  f_is_fraction : DefOk K mg "is_fraction" (top 21) ["value"]
  f_fits_ray : DefOk K mg "fits_ray" (top 22) ["hall", "value"]
  f_need_ray : DefOk K mg "need_ray" (top 27) ["hall", "ray"]
  f_lowest : DefOk K mg "lowest" (top 14) ["top", "below"]
  f_level_at : DefOk K mg "level_at" (top 29) ["ray", "place"]
  f_band_at : DefOk K mg "band_at" (top 30) ["high", "level"]
  f_height_at : DefOk K mg "height_at" (top 31) ["high", "level"]
  f_run : DefOk K mg "run" (top 32) ["hall", "ray"]
  f_word_of : DefOk K mg "word_of" (top 33) ["hall", "ray"]
  f_hit : DefOk K mg "hit" (top 34) ["hall", "ray"]
  f__law_lowest : DefOk K mg "_law_lowest" (top 42) ["_law_top", "_law_below"]
  f__law_height : DefOk K mg "_law_height" (top 46) ["_law_hall_so", "_law_ray_here", "_law_place"]
  f__law_less : DefOk K mg "_law_less" (top 43) ["_law_one", "_law_other"]
  f__law_run : DefOk K mg "_law_run" (top 47) ["_law_hall_so", "_law_ray_here"]
  f__law_named_error : DefOk K mg "_law_named_error" (top 48) ["_law_e"]
  f__law_error : DefOk K mg "_law_error" (top 49) ["_law_call"]
  f__law_all_refused : DefOk K mg "_law_all_refused" (top 51) ["_law_call", "_law_odds", "_law_name"]
  f_is_event : DefOk K mg "is_event" (top 24) ["value", "words"]
  f_fits_word : DefOk K mg "fits_word" (top 25) ["hall", "value"]
  f_does : DefOk K mg "does" (top 35) ["hall", "ray", "word"]
  f__law_ray : DefOk K mg "_law_ray" (top 45) ["_law_bag_here", "_law_hall_so"]
  f__law_edge_ray : DefOk K mg "_law_edge_ray" (top 52) ["_law_bag_here", "_law_hall_so"]
  f__law_truly : DefOk K mg "_law_truly" (top 50) ["_law_found", "_law_due"]
  f_law : DefOk K mg "law" (top 53) ["_law_script"]
section
variable {P : Program} {w : World} {K : PySem.W.Frag} {mg : Str → Option Value} {base : Heap} {T : Tb}
def N__law_cell : List Str := ["_law_script", "_law_k"]
theorem S__law_cell : FnScope N__law_cell ["_law_script", "_law_k"] (defScope (top 37)) := C8.fnScope_by (by decide +kernel)
def b__law_cell (i : Nat) : BS := (sSeq (sIf (tB1 (e2 (g2 gLt) (eVar 1) (eCB (c1 gLen) (aCons (eVar 0) aNil)))) (sSeq (sRet (e2 (g2 gIx) (eVar 0) (eVar 1))) sNil) sNil) (sSeq (sIf (tB1 (e2 (g2 gEq) (eCB (c1 gLen) (aCons (eVar 0) aNil)) (eC (.int 0)))) (sSeq (sRet (e2 (g2 gAdd) (e2 (g2 gMul) (eC (.int 7919)) (eVar 1)) (eC (.int 101)))) sNil) sNil) (sSeq (sRet (e2 (g2 gAdd) (e2 (g2 gMod) (e2 (g2 gIx) (eVar 0) (e2 (g2 gMod) (eVar 1) (eCB (c1 gLen) (aCons (eVar 0) aNil)))) (eC (.int 1000003))) (e2 (g2 gMul) (eC (.int 7919)) (eVar 1)))) sNil)))
def r__law_cell : List D → M D := fun ds => fnOf true N__law_cell.length (b__law_cell (fu0 ds)) ds
theorem F__law_cell (gf : GF K mg) : Fn P w K mg base T 1 "_law_cell" 2 r__law_cell := by
  obtain ⟨f, fd, F, hm, hb⟩ := gf.f__law_cell.ex
  refine fn_def (ι := Nat) (td := true) (b := b__law_cell) F S__law_cell hm hb (fun i cdv A outer s H E _ c => ?_) (fun ds S0 _ _ => ⟨fu0 ds, rfl⟩)
  exact (ds_cons (ds_if (dt_cmp op_lt s_cmp.op (de_var 1) (de_callB call_len d_len gf.z_len bt_len (da_cons (de_var 0) da_nil)) (nomark _)) (ds_cons (ds_ret (de_ix ix_seq s_ix.op (de_var 0) (de_var 1))) ds_nil) ds_nil) (ds_cons (ds_if (dt_cmp (op_eqD c.hu64) s_eq.op (de_callB call_len d_len gf.z_len bt_len (da_cons (de_var 0) da_nil)) de_int (nomark _)) (ds_cons (ds_ret (de_op op_addZ s_add.op (de_op op_mulW s_mul.op de_int (de_var 1)) de_int)) ds_nil) ds_nil) (ds_cons (ds_ret (de_op op_addZ s_add.op (de_op op_mod s_mod.op (de_ix ix_seq s_ix.op (de_var 0) (de_op op_mod s_mod.op (de_var 1) (de_callB call_len d_len gf.z_len bt_len (da_cons (de_var 0) da_nil)))) de_int) (de_op op_mulW s_mul.op de_int (de_var 1)))) ds_nil)))
def N__law_draws : List Str := ["_law_script", "_law_k", "_law_many", "_law_base", "_law_primes", "_law_cell_here", "_law_rest", "_law_row", "_law_j", "_law_mash"]
theorem S__law_draws : FnScope N__law_draws ["_law_script", "_law_k", "_law_many", "_law_base"] (defScope (top 38)) := C8.fnScope_by (by decide +kernel)
def b__law_draws (i : Nat) : BS := (sSeq (sSet 4 (eTup (aCons (eC (.int 2147483647)) (aCons (eC (.int 2147483629)) (aCons (eC (.int 2147483587)) (aCons (eC (.int 2147483579)) (aCons (eC (.int 2147483563)) (aCons (eC (.int 2147483549)) (aCons (eC (.int 2147483543)) (aCons (eC (.int 2147483497)) aNil)))))))))) (sSeq (sSet 5 (eCall 2 r__law_cell (aCons (eVar 0) (aCons (eVar 1) aNil)))) (sSeq (sSet 6 (eC (.int 0))) (sSeq (sIf (tB1 (e2 (g2 gGe) (eVar 5) (e2 (g2 gPow) (eC (.int 10)) (eC (.int 18))))) (sSeq (sSet 6 (eVar 5)) sNil) sNil) (sSeq (sSet 7 (eCel aNil)) (sSeq (sFor (iRg (eVar 2)) (.name 8) (sSeq (sSet 9 (e2 (g2 gMul) (e2 (g2 gMod) (eVar 5) (e2 (g2 gIx) (eVar 4) (e2 (g2 gMod) (eVar 8) (eC (.int 8))))) (e2 (g2 gAdd) (eC (.int 48271)) (e2 (g2 gMul) (e2 (g2 gMul) (eC (.int 2)) (eVar 8)) (eVar 8))))) (sSeq (sSet 9 (e2 (g2 gAdd) (e2 (g2 gAdd) (eVar 9) (e2 (g2 gMul) (e2 (g2 gMul) (eC (.int 7919)) (e2 (g2 gAdd) (eVar 8) (eC (.int 1)))) (e2 (g2 gAdd) (eVar 8) (eC (.int 1))))) (e2 (g2 gMul) (eC (.int 104729)) (eVar 1)))) (sSeq (sSet 9 (e2 (g2 gMod) (eVar 9) (e2 (g2 gIx) (eVar 4) (e2 (g2 gMod) (e2 (g2 gAdd) (e2 (g2 gMul) (eC (.int 3)) (eVar 8)) (eVar 1)) (eC (.int 8)))))) (sSeq (sSet 9 (e2 (g2 gMod) (e2 (g2 gMul) (e2 (g2 gMul) (eVar 9) (eVar 9)) (eVar 9)) (e2 (g2 gIx) (eVar 4) (e2 (g2 gMod) (e2 (g2 gAdd) (eVar 8) (eC (.int 5))) (eC (.int 8)))))) (sSeq (sIf (tB1 (e2 (g2 gGt) (eVar 6) (eC (.int 0)))) (sSeq (sSet 9 (eVar 6)) sNil) sNil) (sSeq (sExpr (eApp (eVar 7) (e2 (g2 gMod) (eVar 9) (eVar 3)))) (sSeq (sSet 6 (e2 (g2 gDiv) (eVar 6) (eVar 3))) sNil)))))))) (sSeq (sRet (eVar 7)) sNil)))))))
def r__law_draws : List D → M D := fun ds => fnOf false N__law_draws.length (b__law_draws (fu0 ds)) ds
theorem F__law_draws (gf : GF K mg) : Fn P w K mg base T 2 "_law_draws" 4 r__law_draws := by
  obtain ⟨f, fd, F, hm, hb⟩ := gf.f__law_draws.ex
  refine fn_def (ι := Nat) (td := false) (b := b__law_draws) F S__law_draws hm hb (fun i cdv A outer s H E _ c => ?_) (fun ds S0 _ _ => ⟨fu0 ds, rfl⟩)
  exact (ds_cons (ds_set 4 c.nd (de_tup (da_cons de_int (da_cons de_int (da_cons de_int (da_cons de_int (da_cons de_int (da_cons de_int (da_cons de_int (da_cons de_int da_nil)))))))))) (ds_cons (ds_set 5 c.nd (de_call (F__law_cell gf) c (da_cons (de_var 0) (da_cons (de_var 1) da_nil)) (by omega))) (ds_cons (ds_set 6 c.nd de_int) (ds_cons (ds_if (dt_cmp op_ge s_cmp.op (de_var 5) (de_op op_pow s_pow.op de_int de_int) (nomark _)) (ds_cons (ds_set 6 c.nd (de_var 5)) ds_nil) ds_nil) (ds_cons (ds_set 7 c.nd (de_cel da_nil)) (ds_cons (ds_for c (di_range (de_var 2) gf.z_range) (dg_name 8 c.nd) (ds_cons (ds_set 9 c.nd (de_op op_mulW s_mul.op (de_op op_mod s_mod.op (de_var 5) (de_ix ix_seq s_ix.op (de_var 4) (de_op op_mod s_mod.op (de_var 8) de_int))) (de_op op_addZ s_add.op de_int (de_op op_mulW s_mul.op (de_op op_mulW s_mul.op de_int (de_var 8)) (de_var 8))))) (ds_cons (ds_set 9 c.nd (de_op op_addZ s_add.op (de_op op_addZ s_add.op (de_var 9) (de_op op_mulW s_mul.op (de_op op_mulW s_mul.op de_int (de_op op_addZ s_add.op (de_var 8) de_int)) (de_op op_addZ s_add.op (de_var 8) de_int))) (de_op op_mulW s_mul.op de_int (de_var 1)))) (ds_cons (ds_set 9 c.nd (de_op op_mod s_mod.op (de_var 9) (de_ix ix_seq s_ix.op (de_var 4) (de_op op_mod s_mod.op (de_op op_addZ s_add.op (de_op op_mulW s_mul.op de_int (de_var 8)) (de_var 1)) de_int)))) (ds_cons (ds_set 9 c.nd (de_op op_mod s_mod.op (de_op op_mulW s_mul.op (de_op op_mulW s_mul.op (de_var 9) (de_var 9)) (de_var 9)) (de_ix ix_seq s_ix.op (de_var 4) (de_op op_mod s_mod.op (de_op op_addZ s_add.op (de_var 8) de_int) de_int)))) (ds_cons (ds_if (dt_cmp op_gt s_cmp.op (de_var 6) de_int (nomark _)) (ds_cons (ds_set 9 c.nd (de_var 6)) ds_nil) ds_nil) (ds_cons (ds_expr (de_append (de_var 7) (de_op op_mod s_mod.op (de_var 9) (de_var 3)))) (ds_cons (ds_set 6 c.nd (de_op op_fdivW s_div.op (de_var 6) (de_var 3))) ds_nil)))))))) (ds_cons (ds_ret (de_var 7)) ds_nil)))))))
def N__law_bag : List Str := ["_law_script", "_law_k"]
theorem S__law_bag : FnScope N__law_bag ["_law_script", "_law_k"] (defScope (top 39)) := C8.fnScope_by (by decide +kernel)
def b__law_bag (i : Nat) : BS := (sSeq (sRet (eCall 4 r__law_draws (aCons (eVar 0) (aCons (eVar 1) (aCons (eC (.int 150)) (aCons (eC (.int 27720)) aNil)))))) sNil)
def r__law_bag : List D → M D := fun ds => fnOf false N__law_bag.length (b__law_bag (fu0 ds)) ds
theorem F__law_bag (gf : GF K mg) : Fn P w K mg base T 3 "_law_bag" 2 r__law_bag := by
  obtain ⟨f, fd, F, hm, hb⟩ := gf.f__law_bag.ex
  refine fn_def (ι := Nat) (td := false) (b := b__law_bag) F S__law_bag hm hb (fun i cdv A outer s H E _ c => ?_) (fun ds S0 _ _ => ⟨fu0 ds, rfl⟩)
  exact (ds_cons (ds_ret (de_call (F__law_draws gf) c (da_cons (de_var 0) (da_cons (de_var 1) (da_cons de_int (da_cons de_int da_nil)))) (by omega))) ds_nil)
def N__law_take : List Str := ["_law_bag_here", "_law_many", "_law_draw"]
theorem S__law_take : FnScope N__law_take ["_law_bag_here", "_law_many"] (defScope (top 40)) := C8.fnScope_by (by decide +kernel)
def b__law_take (i : Nat) : BS := (sSeq (sSet 2 (eIf (tB1 (e2 (g2 gNe) (eVar 0) (eLst aNil))) (ePop (eVar 0) (eC (.int 0))) (eC (.int 0)))) (sSeq (sRet (e2 (g2 gMod) (eCB (c1 gInt) (aCons (eVar 2) aNil)) (eVar 1))) sNil))
def r__law_take : List D → M D := fun ds => fnOf true N__law_take.length (b__law_take (fu0 ds)) ds
theorem F__law_take (gf : GF K mg) : Fn P w K mg base T 1 "_law_take" 2 r__law_take := by
  obtain ⟨f, fd, F, hm, hb⟩ := gf.f__law_take.ex
  refine fn_def (ι := Nat) (td := true) (b := b__law_take) F S__law_take hm hb (fun i cdv A outer s H E _ c => ?_) (fun ds S0 _ _ => ⟨fu0 ds, rfl⟩)
  exact (ds_cons (ds_set 2 c.nd (de_if (dt_cmp (op_neD c.hu64) s_ne.op (de_var 0) (de_lst da_nil) (nomark _)) (de_popAt (de_var 0) de_int) de_int)) (ds_cons (ds_ret (de_op op_mod s_mod.op (de_callTy call_int1 d_int gf.z_int bt_int (da_cons (de_var 2) da_nil)) (de_var 1))) ds_nil))
def N__law_choice : List Str := ["_law_bag_here", "_law_some"]
theorem S__law_choice : FnScope N__law_choice ["_law_bag_here", "_law_some"] (defScope (top 41)) := C8.fnScope_by (by decide +kernel)
def b__law_choice (i : Nat) : BS := (sSeq (sRet (e2 (g2 gIx) (eVar 1) (eCall 2 r__law_take (aCons (eVar 0) (aCons (eCB (c1 gLen) (aCons (eVar 1) aNil)) aNil))))) sNil)
def r__law_choice : List D → M D := fun ds => fnOf true N__law_choice.length (b__law_choice (fu0 ds)) ds
theorem F__law_choice (gf : GF K mg) : Fn P w K mg base T 2 "_law_choice" 2 r__law_choice := by
  obtain ⟨f, fd, F, hm, hb⟩ := gf.f__law_choice.ex
  refine fn_def (ι := Nat) (td := true) (b := b__law_choice) F S__law_choice hm hb (fun i cdv A outer s H E _ c => ?_) (fun ds S0 _ _ => ⟨fu0 ds, rfl⟩)
  exact (ds_cons (ds_ret (de_ix ix_seq s_ix.op (de_var 1) (de_call (F__law_take gf) c (da_cons (de_var 0) (da_cons (de_callB call_len d_len gf.z_len bt_len (da_cons (de_var 1) da_nil)) da_nil)) (by omega)))) ds_nil)
def N__law_hall : List Str := ["_law_bag_here", "_law_most", "_law_high", "_law_end", "_law_places", "_law_made_so", "_law_turn", "_law_place", "_law_low"]
theorem S__law_hall : FnScope N__law_hall ["_law_bag_here", "_law_most"] (defScope (top 44)) := C8.fnScope_by (by decide +kernel)
def b__law_hall (i : Nat) : BS := (sSeq (sSet 2 (eCall 2 r__law_choice (aCons (eVar 0) (aCons (eLst (aCons (eC (.int 3)) (aCons (eC (.int 6)) (aCons (eC (.int 10)) (aCons (eC (.int 10)) (aCons (eC (.int 12)) (aCons (eC (.int 60)) aNil))))))) aNil)))) (sSeq (sSet 3 (e2 (g2 gSub) (eVar 2) (eCall 2 r__law_take (aCons (eVar 0) (aCons (eCB (c2 gMax2) (aCons (eC (.int 1)) (aCons (e2 (g2 gDiv) (eVar 2) (eC (.int 3))) aNil))) aNil))))) (sSeq (sPar 4 5 (eCel aNil) (eCel aNil)) (sSeq (sFor (iRg (eCall 2 r__law_take (aCons (eVar 0) (aCons (e2 (g2 gAdd) (eVar 1) (eC (.int 1))) aNil)))) (.name 6) (sSeq (sSet 7 (e2 (g2 gAdd) (eC (.int 1)) (eCall 2 r__law_take (aCons (eVar 0) (aCons (eCB (c2 gMax2) (aCons (eC (.int 1)) (aCons (e2 (g2 gSub) (eVar 3) (eC (.int 1))) aNil))) aNil))))) (sSeq (sIf (bAnd (tB1 (e2 (g2 (gIn true)) (eVar 7) (eVar 4))) (tB1 (e2 (g2 gLt) (eVar 7) (eVar 3)))) (sSeq (sExpr (eApp (eVar 4) (eVar 7))) sNil) sNil) sNil))) (sSeq (sFor (iSeq (eCB (c1 gSorted) (aCons (eVar 4) aNil))) (.name 7) (sSeq (sSet 8 (eCall 2 r__law_take (aCons (eVar 0) (aCons (e2 (g2 gAdd) (eVar 2) (eC (.int 1))) aNil)))) (sSeq (sExpr (eApp (eVar 5) (eTup (aCons (eVar 7) (aCons (eVar 8) (aCons (e2 (g2 gAdd) (eVar 8) (eCall 2 r__law_take (aCons (eVar 0) (aCons (e2 (g2 gAdd) (eCB (c2 gMin2) (aCons (e2 (g2 gSub) (eVar 2) (eVar 8)) (aCons (e2 (g2 gAdd) (eC (.int 2)) (e2 (g2 gDiv) (eVar 2) (eC (.int 2)))) aNil))) (eC (.int 1))) aNil)))) aNil)))))) sNil))) (sSeq (sRet (eTup (aCons (eVar 2) (aCons (eCB (c1 gTuple) (aCons (eVar 5) aNil)) (aCons (eVar 3) aNil))))) sNil))))))
def r__law_hall : List D → M D := fun ds => fnOf true N__law_hall.length (b__law_hall (fu0 ds)) ds
theorem F__law_hall (gf : GF K mg) : Fn P w K mg base T 3 "_law_hall" 2 r__law_hall := by
  obtain ⟨f, fd, F, hm, hb⟩ := gf.f__law_hall.ex
  refine fn_def (ι := Nat) (td := true) (b := b__law_hall) F S__law_hall hm hb (fun i cdv A outer s H E _ c => ?_) (fun ds S0 _ _ => ⟨fu0 ds, rfl⟩)
  exact (ds_cons (ds_set 2 c.nd (de_call (F__law_choice gf) c (da_cons (de_var 0) (da_cons (de_lst (da_cons de_int (da_cons de_int (da_cons de_int (da_cons de_int (da_cons de_int (da_cons de_int da_nil))))))) da_nil)) (by omega))) (ds_cons (ds_set 3 c.nd (de_op op_subZ s_sub.op (de_var 2) (de_call (F__law_take gf) c (da_cons (de_var 0) (da_cons (de_callB (call_max2 c.calm) d_max2 gf.z_max bt_max (da_cons de_int (da_cons (de_op op_fdivW s_div.op (de_var 2) de_int) da_nil))) da_nil)) (by omega)))) (ds_cons (ds_par 4 5 c.calm c.nd (de_cel da_nil) (de_cel da_nil)) (ds_cons (ds_for c (di_range (de_call (F__law_take gf) c (da_cons (de_var 0) (da_cons (de_op op_addZ s_add.op (de_var 1) de_int) da_nil)) (by omega)) gf.z_range) (dg_name 6 c.nd) (ds_cons (ds_set 7 c.nd (de_op op_addZ s_add.op de_int (de_call (F__law_take gf) c (da_cons (de_var 0) (da_cons (de_callB (call_max2 c.calm) d_max2 gf.z_max bt_max (da_cons de_int (da_cons (de_op op_subZ s_sub.op (de_var 3) de_int) da_nil))) da_nil)) (by omega)))) (ds_cons (ds_if (dt_w (dw_and (dt_cmp (op_ninZ c.hu) s_in.op (de_var 7) (de_var 4) (by with_unfolding_all rfl)) (dw_and1 (dt_cmp op_lt s_cmp.op (de_var 7) (de_var 3) (nomark _))))) (ds_cons (ds_expr (de_append (de_var 4) (de_var 7))) ds_nil) ds_nil) ds_nil))) (ds_cons (ds_for c (di_seq (de_callB cr_sortedI d_sorted gf.z_sorted bt_sorted (da_cons (de_var 4) da_nil))) (dg_name 7 c.nd) (ds_cons (ds_set 8 c.nd (de_call (F__law_take gf) c (da_cons (de_var 0) (da_cons (de_op op_addZ s_add.op (de_var 2) de_int) da_nil)) (by omega))) (ds_cons (ds_expr (de_append (de_var 5) (de_tup (da_cons (de_var 7) (da_cons (de_var 8) (da_cons (de_op op_addZ s_add.op (de_var 8) (de_call (F__law_take gf) c (da_cons (de_var 0) (da_cons (de_op op_addZ s_add.op (de_callB (call_min2 c.calm) d_min2 gf.z_min bt_min (da_cons (de_op op_subZ s_sub.op (de_var 2) (de_var 8)) (da_cons (de_op op_addZ s_add.op de_int (de_op op_fdivW s_div.op (de_var 2) de_int)) da_nil))) de_int) da_nil)) (by omega))) da_nil)))))) ds_nil))) (ds_cons (ds_ret (de_tup (da_cons (de_var 2) (da_cons (de_callTy call_tuple_of d_tuple gf.z_tuple bt_tuple (da_cons (de_var 5) da_nil)) (da_cons (de_var 3) da_nil))))) ds_nil))))))
def N_is_row : List Str := ["value", "low", "high"]
theorem S_is_row : FnScope N_is_row ["value", "low", "high"] (defScope (top 18)) := C8.fnScope_by (by decide +kernel)
def b_is_row (i : Nat) : BS := (sSeq (sRet (eAnd (eIsi "tuple" (eVar 0)) (eChain (g2 gLe) (g2 gLe) (eVar 1) (eCB (c1 gLen) (aCons (eVar 0) aNil)) (eVar 2)))) sNil)
def r_is_row : List D → M D := fun ds => fnOf true N_is_row.length (b_is_row (fu0 ds)) ds
theorem F_is_row (gf : GF K mg) : Fn P w K mg base T 1 "is_row" 3 r_is_row := by
  obtain ⟨f, fd, F, hm, hb⟩ := gf.f_is_row.ex
  refine fn_def (ι := Nat) (td := true) (b := b_is_row) F S_is_row hm hb (fun i cdv A outer s H E _ c => ?_) (fun ds S0 _ _ => ⟨fu0 ds, rfl⟩)
  exact (ds_cons (ds_ret (de_and (de_isi (de_var 0) gf.z_isinstance bt_isinstance gf.z_tuple bt_tuple) (de_one (de_chain op_le op_le s_cmp.op s_cmp.op (de_var 1) (de_callB call_len d_len gf.z_len bt_len (da_cons (de_var 0) da_nil)) (de_var 2))))) ds_nil)
def N_is_whole : List Str := ["value", "low", "high"]
theorem S_is_whole : FnScope N_is_whole ["value", "low", "high"] (defScope (top 17)) := C8.fnScope_by (by decide +kernel)
def b_is_whole (i : Nat) : BS := (sSeq (sRet (eAnd (eIsi "int" (eVar 0)) (eAnd (eNot (eIsi "bool" (eVar 0))) (eChain (g2 gLe) (g2 gLe) (eVar 1) (eVar 0) (eVar 2))))) sNil)
def r_is_whole : List D → M D := fun ds => fnOf true N_is_whole.length (b_is_whole (fu0 ds)) ds
theorem F_is_whole (gf : GF K mg) : Fn P w K mg base T 1 "is_whole" 3 r_is_whole := by
  obtain ⟨f, fd, F, hm, hb⟩ := gf.f_is_whole.ex
  refine fn_def (ι := Nat) (td := true) (b := b_is_whole) F S_is_whole hm hb (fun i cdv A outer s H E _ c => ?_) (fun ds S0 _ _ => ⟨fu0 ds, rfl⟩)
  exact (ds_cons (ds_ret (de_and (de_isi (de_var 0) gf.z_isinstance bt_isinstance gf.z_int bt_int) (de_and (de_not (de_isi (de_var 0) gf.z_isinstance bt_isinstance gf.z_bool bt_bool)) (de_one (de_chain op_le op_le s_cmp.op s_cmp.op (de_var 1) (de_var 0) (de_var 2)))))) ds_nil)
def N_is_wall : List Str := ["high", "end", "value"]
theorem S_is_wall : FnScope N_is_wall ["high", "end", "value"] (defScope (top 19)) := C8.fnScope_by (by decide +kernel)
def b_is_wall (i : Nat) : BS := (sSeq (sIf (bOr (bNot (bTru (eCall 3 r_is_row (aCons (eVar 2) (aCons (eC (.int 3)) (aCons (eC (.int 3)) aNil)))))) (bNot (bTru (eCall 3 r_is_whole (aCons (e2 (g2 gIx) (eVar 2) (eC (.int 0))) (aCons (eC (.int 1)) (aCons (e2 (g2 gSub) (eVar 1) (eC (.int 1))) aNil))))))) (sSeq (sRet (eC (.bool false))) sNil) sNil) (sSeq (sRet (eAnd (eCall 3 r_is_whole (aCons (e2 (g2 gIx) (eVar 2) (eC (.int 2))) (aCons (eC (.int 0)) (aCons (eVar 0) aNil)))) (eCall 3 r_is_whole (aCons (e2 (g2 gIx) (eVar 2) (eC (.int 1))) (aCons (eC (.int 0)) (aCons (e2 (g2 gIx) (eVar 2) (eC (.int 2))) aNil)))))) sNil))
def r_is_wall : List D → M D := fun ds => fnOf true N_is_wall.length (b_is_wall (fu0 ds)) ds
theorem F_is_wall (gf : GF K mg) : Fn P w K mg base T 2 "is_wall" 3 r_is_wall := by
  obtain ⟨f, fd, F, hm, hb⟩ := gf.f_is_wall.ex
  refine fn_def (ι := Nat) (td := true) (b := b_is_wall) F S_is_wall hm hb (fun i cdv A outer s H E _ c => ?_) (fun ds S0 _ _ => ⟨fu0 ds, rfl⟩)
  exact (ds_cons (ds_if (dt_w (dw_or (dt_not (dt_tru (de_call (F_is_row gf) c (da_cons (de_var 2) (da_cons de_int (da_cons de_int da_nil))) (by omega)))) (dw_or1 (dt_not (dt_tru (de_call (F_is_whole gf) c (da_cons (de_ix ix_seq s_ix.op (de_var 2) de_int) (da_cons de_int (da_cons (de_op op_subZ s_sub.op (de_var 1) de_int) da_nil))) (by omega))))))) (ds_cons (ds_ret de_bl) ds_nil) ds_nil) (ds_cons (ds_ret (de_and (de_call (F_is_whole gf) c (da_cons (de_ix ix_seq s_ix.op (de_var 2) de_int) (da_cons de_int (da_cons (de_var 0) da_nil))) (by omega)) (de_one (de_call (F_is_whole gf) c (da_cons (de_ix ix_seq s_ix.op (de_var 2) de_int) (da_cons de_int (da_cons (de_ix ix_seq s_ix.op (de_var 2) de_int) da_nil))) (by omega))))) ds_nil))
def N_is_hall : List Str := ["value", "high", "walls", "end", "wall", "one", "other"]
theorem S_is_hall : FnScope N_is_hall ["value"] (defScope (top 20)) := C8.fnScope_by (by decide +kernel)
def b_is_hall (i : Nat) : BS := (sSeq (sIf (bOr (bNot (bTru (eCall 3 r_is_row (aCons (eVar 0) (aCons (eC (.int 3)) (aCons (eC (.int 3)) aNil)))))) (bOr (bNot (bTru (eCall 3 r_is_whole (aCons (e2 (g2 gIx) (eVar 0) (eC (.int 0))) (aCons (eC (.int 1)) (aCons (eC (.int 60)) aNil)))))) (bNot (bTru (eCall 3 r_is_whole (aCons (e2 (g2 gIx) (eVar 0) (eC (.int 2))) (aCons (eC (.int 1)) (aCons (e2 (g2 gIx) (eVar 0) (eC (.int 0))) aNil)))))))) (sSeq (sRet (eC (.bool false))) sNil) sNil) (sSeq (sAsg (.tup [(.name 1), (.name 2), (.name 3)]) (eVar 0)) (sSeq (sIf (bOr (bNot (bTru (eCall 3 r_is_row (aCons (eVar 2) (aCons (eC (.int 0)) (aCons (eC (.int 3)) aNil)))))) (bNot (bTru (eCB (c1 gAll) (aCons (eLc [4] (iSeq (eVar 2)) (.name 4) bYes (eCall 3 r_is_wall (aCons (eVar 1) (aCons (eVar 3) (aCons (eVar 4) aNil))))) aNil))))) (sSeq (sRet (eC (.bool false))) sNil) sNil) (sSeq (sRet (eCB (c1 gAll) (aCons (eLc [5, 6] (iZp (eVar 2) (eSl (eVar 2) (oSome (eC (.int 1))) oNone)) (.tup [(.name 5), (.name 6)]) bYes (e2 (g2 gLt) (e2 (g2 gIx) (eVar 5) (eC (.int 0))) (e2 (g2 gIx) (eVar 6) (eC (.int 0))))) aNil))) sNil))))
def r_is_hall : List D → M D := fun ds => fnOf true N_is_hall.length (b_is_hall (fu0 ds)) ds
theorem F_is_hall (gf : GF K mg) : Fn P w K mg base T 3 "is_hall" 1 r_is_hall := by
  obtain ⟨f, fd, F, hm, hb⟩ := gf.f_is_hall.ex
  refine fn_def (ι := Nat) (td := true) (b := b_is_hall) F S_is_hall hm hb (fun i cdv A outer s H E _ c => ?_) (fun ds S0 _ _ => ⟨fu0 ds, rfl⟩)
  exact (ds_cons (ds_if (dt_w (dw_or (dt_not (dt_tru (de_call (F_is_row gf) c (da_cons (de_var 0) (da_cons de_int (da_cons de_int da_nil))) (by omega)))) (dw_or (dt_not (dt_tru (de_call (F_is_whole gf) c (da_cons (de_ix ix_seq s_ix.op (de_var 0) de_int) (da_cons de_int (da_cons de_int da_nil))) (by omega)))) (dw_or1 (dt_not (dt_tru (de_call (F_is_whole gf) c (da_cons (de_ix ix_seq s_ix.op (de_var 0) de_int) (da_cons de_int (da_cons (de_ix ix_seq s_ix.op (de_var 0) de_int) da_nil))) (by omega)))))))) (ds_cons (ds_ret de_bl) ds_nil) ds_nil) (ds_cons (ds_asg (de_var 0) (dg_tup c.calm (dgs_cons (dg_name 1 c.nd) (dgs_cons (dg_name 2 c.nd) (dgs_cons (dg_name 3 c.nd) dgs_nil))))) (ds_cons (ds_if (dt_w (dw_or (dt_not (dt_tru (de_call (F_is_row gf) c (da_cons (de_var 2) (da_cons de_int (da_cons de_int da_nil))) (by omega)))) (dw_or1 (dt_not (dt_tru (de_callB (cr_all c.calm) d_all gf.z_all bt_all (da_cons (de_lc [("wall", 4)] c (di_seq (de_var 2)) (fun _ _ _ _ _ => (dg_name 4 c.nd)) (fun _ _ _ _ _ _ => dts_nil) (fun _ _ _ _ _ c => (de_call (F_is_wall gf) c (da_cons (de_var 1) (da_cons (de_var 3) (da_cons (de_var 4) da_nil))) (by omega))) (ok := by exact (show BlkOk N_is_hall (defScope (top 20)) _ _ from blkOk_by (by decide +kernel)))) da_nil))))))) (ds_cons (ds_ret de_bl) ds_nil) ds_nil) (ds_cons (ds_ret (de_callB (cr_all c.calm) d_all gf.z_all bt_all (da_cons (de_lc [("one", 5), ("other", 6)] c (di_zip (de_var 2) (de_sl (de_var 2) (do_some de_int) do_none) gf.z_zip) (fun _ _ _ _ _ => (dg_tup c.calm (dgs_cons (dg_name 5 c.nd) (dgs_cons (dg_name 6 c.nd) dgs_nil)))) (fun _ _ _ _ _ _ => dts_nil) (fun _ _ _ _ _ _ => (de_cmp op_lt s_cmp.op (de_ix ix_seq s_ix.op (de_var 5) de_int) (de_ix ix_seq s_ix.op (de_var 6) de_int) (nomark _))) (ok := by exact (show BlkOk N_is_hall (defScope (top 20)) _ _ from blkOk_by (by decide +kernel)))) da_nil))) ds_nil))))
def N_need_hall : List Str := ["hall"]
theorem S_need_hall : FnScope N_need_hall ["hall"] (defScope (top 26)) := C8.fnScope_by (by decide +kernel)
def b_need_hall (i : Nat) : BS := (sSeq (sIf (bNot (bTru (eCall 1 r_is_hall (aCons (eVar 0) aNil)))) (sSeq (sRaise "InvalidHall") sNil) sNil) sNil)
def r_need_hall : List D → M D := fun ds => fnOf true N_need_hall.length (b_need_hall (fu0 ds)) ds
theorem F_need_hall (gf : GF K mg) : Fn P w K mg base T 4 "need_hall" 1 r_need_hall := by
  obtain ⟨f, fd, F, hm, hb⟩ := gf.f_need_hall.ex
  refine fn_def (ι := Nat) (td := true) (b := b_need_hall) F S_need_hall hm hb (fun i cdv A outer s H E _ c => ?_) (fun ds S0 _ _ => ⟨fu0 ds, rfl⟩)
  exact (ds_cons (ds_if (dt_not (dt_tru (de_call (F_is_hall gf) c (da_cons (de_var 0) da_nil) (by omega)))) (ds_cons (ds_raise c gf.x_InvalidHall) ds_nil) ds_nil) ds_nil)
def N_is_within : List Str := ["hall", "ray", "top", "below", "rise", "length"]
theorem S_is_within : FnScope N_is_within ["hall", "ray"] (defScope (top 23)) := C8.fnScope_by (by decide +kernel)
def b_is_within (i : Nat) : BS := (sSeq (sAsg (.tup [(.tup [(.name 2), (.name 3)]), (.tup [(.name 4), (.name 5)])]) (eVar 1)) (sSeq (sRet (eAnd (eChain (g2 gLe) (g2 gLe) (eC (.int 0)) (eVar 2) (e2 (g2 gMul) (e2 (g2 gIx) (eVar 0) (eC (.int 0))) (eVar 3))) (eChain (g2 gLe) (g2 gLe) (e1 (g1 gNeg) (eVar 5)) (eVar 4) (eVar 5)))) sNil))
def r_is_within : List D → M D := fun ds => fnOf true N_is_within.length (b_is_within (fu0 ds)) ds
theorem F_is_within (gf : GF K mg) : Fn P w K mg base T 1 "is_within" 2 r_is_within := by
  obtain ⟨f, fd, F, hm, hb⟩ := gf.f_is_within.ex
  refine fn_def (ι := Nat) (td := true) (b := b_is_within) F S_is_within hm hb (fun i cdv A outer s H E _ c => ?_) (fun ds S0 _ _ => ⟨fu0 ds, rfl⟩)
  exact (ds_cons (ds_asg (de_var 1) (dg_tup c.calm (dgs_cons (dg_tup c.calm (dgs_cons (dg_name 2 c.nd) (dgs_cons (dg_name 3 c.nd) dgs_nil))) (dgs_cons (dg_tup c.calm (dgs_cons (dg_name 4 c.nd) (dgs_cons (dg_name 5 c.nd) dgs_nil))) dgs_nil)))) (ds_cons (ds_ret (de_and (de_chain op_le op_le s_cmp.op s_cmp.op de_int (de_var 2) (de_op op_mulW s_mul.op (de_ix ix_seq s_ix.op (de_var 0) de_int) (de_var 3))) (de_one (de_chain op_le op_le s_cmp.op s_cmp.op (de_un un_neg s_neg.op (de_var 5)) (de_var 4) (de_var 5))))) ds_nil))
def N_divisor_of : List Str := ["one", "other"]
theorem S_divisor_of : FnScope N_divisor_of ["one", "other"] (defScope (top 13)) := C8.fnScope_by (by decide +kernel)
def b_divisor_of (i : Nat) : BS := (sSeq (sPar 0 1 (eCB (c1 gAbs) (aCons (eVar 0) aNil)) (eCB (c1 gAbs) (aCons (eVar 1) aNil))) (sSeq (whileM (tB1 (e2 (g2 gNe) (eVar 1) (eC (.int 0)))) (sSeq (sPar 0 1 (eVar 1) (e2 (g2 gMod) (eVar 0) (eVar 1))) sNil) i) (sSeq (sRet (eVar 0)) sNil)))
def r_divisor_of : List D → M D := fun ds => fnOf true N_divisor_of.length (b_divisor_of (fu2 ds)) ds
theorem F_divisor_of (gf : GF K mg) : Fn P w K mg base T 1 "divisor_of" 2 r_divisor_of := by
  obtain ⟨f, fd, F, hm, hb⟩ := gf.f_divisor_of.ex
  refine fn_def (ι := Nat) (td := true) (b := b_divisor_of) F S_divisor_of hm hb (fun i cdv A outer s H E _ c => ?_) (fun ds S0 _ _ => ⟨fu2 ds, rfl⟩)
  exact (ds_cons (ds_par 0 1 c.calm c.nd (de_callB call_abs d_abs gf.z_abs bt_abs (da_cons (de_var 0) da_nil)) (de_callB call_abs d_abs gf.z_abs bt_abs (da_cons (de_var 1) da_nil))) (ds_cons (ds_while c (dt_cmp (op_neD c.hu64) s_ne.op (de_var 1) de_int (nomark _)) (ds_cons (ds_par 0 1 c.calm c.nd (de_var 1) (de_op op_mod s_mod.op (de_var 0) (de_var 1))) ds_nil)) (ds_cons (ds_ret (de_var 0)) ds_nil)))
def N_is_fraction : List Str := ["value"]
theorem S_is_fraction : FnScope N_is_fraction ["value"] (defScope (top 21)) := C8.fnScope_by (by decide +kernel)
def b_is_fraction (i : Nat) : BS := (sSeq (sIf (bOr (bNot (bTru (eCall 3 r_is_row (aCons (eVar 0) (aCons (eC (.int 2)) (aCons (eC (.int 2)) aNil)))))) (bOr (bNot (bTru (eCall 3 r_is_whole (aCons (e2 (g2 gIx) (eVar 0) (eC (.int 0))) (aCons (e1 (g1 gNeg) (eC (.int 1000000))) (aCons (eC (.int 1000000)) aNil)))))) (bNot (bTru (eCall 3 r_is_whole (aCons (e2 (g2 gIx) (eVar 0) (eC (.int 1))) (aCons (eC (.int 1)) (aCons (eC (.int 1000000)) aNil)))))))) (sSeq (sRet (eC (.bool false))) sNil) sNil) (sSeq (sRet (e2 (g2 gEq) (eCall 2 r_divisor_of (aCons (e2 (g2 gIx) (eVar 0) (eC (.int 0))) (aCons (e2 (g2 gIx) (eVar 0) (eC (.int 1))) aNil))) (eC (.int 1)))) sNil))
def r_is_fraction : List D → M D := fun ds => fnOf true N_is_fraction.length (b_is_fraction (fu0 ds)) ds
theorem F_is_fraction (gf : GF K mg) : Fn P w K mg base T 2 "is_fraction" 1 r_is_fraction := by
  obtain ⟨f, fd, F, hm, hb⟩ := gf.f_is_fraction.ex
  refine fn_def (ι := Nat) (td := true) (b := b_is_fraction) F S_is_fraction hm hb (fun i cdv A outer s H E _ c => ?_) (fun ds S0 _ _ => ⟨fu0 ds, rfl⟩)
  exact (ds_cons (ds_if (dt_w (dw_or (dt_not (dt_tru (de_call (F_is_row gf) c (da_cons (de_var 0) (da_cons de_int (da_cons de_int da_nil))) (by omega)))) (dw_or (dt_not (dt_tru (de_call (F_is_whole gf) c (da_cons (de_ix ix_seq s_ix.op (de_var 0) de_int) (da_cons (de_un un_neg s_neg.op (de_glI gf.i_GREATEST)) (da_cons (de_glI gf.i_GREATEST) da_nil))) (by omega)))) (dw_or1 (dt_not (dt_tru (de_call (F_is_whole gf) c (da_cons (de_ix ix_seq s_ix.op (de_var 0) de_int) (da_cons de_int (da_cons (de_glI gf.i_GREATEST) da_nil))) (by omega)))))))) (ds_cons (ds_ret de_bl) ds_nil) ds_nil) (ds_cons (ds_ret (de_cmp (op_eqD c.hu64) s_eq.op (de_call (F_divisor_of gf) c (da_cons (de_ix ix_seq s_ix.op (de_var 0) de_int) (da_cons (de_ix ix_seq s_ix.op (de_var 0) de_int) da_nil)) (by omega)) de_int (nomark _))) ds_nil))
def N_fits_ray : List Str := ["hall", "value"]
theorem S_fits_ray : FnScope N_fits_ray ["hall", "value"] (defScope (top 22)) := C8.fnScope_by (by decide +kernel)
def b_fits_ray (i : Nat) : BS := (sSeq (sIf (bOr (bNot (bTru (eCall 3 r_is_row (aCons (eVar 1) (aCons (eC (.int 2)) (aCons (eC (.int 2)) aNil)))))) (bOr (bNot (bTru (eCall 1 r_is_fraction (aCons (e2 (g2 gIx) (eVar 1) (eC (.int 0))) aNil)))) (bNot (bTru (eCall 1 r_is_fraction (aCons (e2 (g2 gIx) (eVar 1) (eC (.int 1))) aNil)))))) (sSeq (sRet (eC (.bool false))) sNil) sNil) (sSeq (sRet (eCall 2 r_is_within (aCons (eVar 0) (aCons (eVar 1) aNil)))) sNil))
def r_fits_ray : List D → M D := fun ds => fnOf true N_fits_ray.length (b_fits_ray (fu0 ds)) ds
theorem F_fits_ray (gf : GF K mg) : Fn P w K mg base T 3 "fits_ray" 2 r_fits_ray := by
  obtain ⟨f, fd, F, hm, hb⟩ := gf.f_fits_ray.ex
  refine fn_def (ι := Nat) (td := true) (b := b_fits_ray) F S_fits_ray hm hb (fun i cdv A outer s H E _ c => ?_) (fun ds S0 _ _ => ⟨fu0 ds, rfl⟩)
  exact (ds_cons (ds_if (dt_w (dw_or (dt_not (dt_tru (de_call (F_is_row gf) c (da_cons (de_var 1) (da_cons de_int (da_cons de_int da_nil))) (by omega)))) (dw_or (dt_not (dt_tru (de_call (F_is_fraction gf) c (da_cons (de_ix ix_seq s_ix.op (de_var 1) de_int) da_nil) (by omega)))) (dw_or1 (dt_not (dt_tru (de_call (F_is_fraction gf) c (da_cons (de_ix ix_seq s_ix.op (de_var 1) de_int) da_nil) (by omega)))))))) (ds_cons (ds_ret de_bl) ds_nil) ds_nil) (ds_cons (ds_ret (de_call (F_is_within gf) c (da_cons (de_var 0) (da_cons (de_var 1) da_nil)) (by omega))) ds_nil))
def N_need_ray : List Str := ["hall", "ray"]
theorem S_need_ray : FnScope N_need_ray ["hall", "ray"] (defScope (top 27)) := C8.fnScope_by (by decide +kernel)
def b_need_ray (i : Nat) : BS := (sSeq (sIf (bNot (bTru (eCall 2 r_fits_ray (aCons (eVar 0) (aCons (eVar 1) aNil))))) (sSeq (sRaise "InvalidRay") sNil) sNil) sNil)
def r_need_ray : List D → M D := fun ds => fnOf true N_need_ray.length (b_need_ray (fu0 ds)) ds
theorem F_need_ray (gf : GF K mg) : Fn P w K mg base T 4 "need_ray" 2 r_need_ray := by
  obtain ⟨f, fd, F, hm, hb⟩ := gf.f_need_ray.ex
  refine fn_def (ι := Nat) (td := true) (b := b_need_ray) F S_need_ray hm hb (fun i cdv A outer s H E _ c => ?_) (fun ds S0 _ _ => ⟨fu0 ds, rfl⟩)
  exact (ds_cons (ds_if (dt_not (dt_tru (de_call (F_fits_ray gf) c (da_cons (de_var 0) (da_cons (de_var 1) da_nil)) (by omega)))) (ds_cons (ds_raise c gf.x_InvalidRay) ds_nil) ds_nil) ds_nil)
def N_lowest : List Str := ["top", "below", "divisor"]
theorem S_lowest : FnScope N_lowest ["top", "below"] (defScope (top 14)) := C8.fnScope_by (by decide +kernel)
def b_lowest (i : Nat) : BS := (sSeq (sSet 2 (eCall 2 r_divisor_of (aCons (eVar 0) (aCons (eVar 1) aNil)))) (sSeq (sRet (eTup (aCons (e2 (g2 gDiv) (eVar 0) (eVar 2)) (aCons (e2 (g2 gDiv) (eVar 1) (eVar 2)) aNil)))) sNil))
def r_lowest : List D → M D := fun ds => fnOf true N_lowest.length (b_lowest (fu0 ds)) ds
theorem F_lowest (gf : GF K mg) : Fn P w K mg base T 2 "lowest" 2 r_lowest := by
  obtain ⟨f, fd, F, hm, hb⟩ := gf.f_lowest.ex
  refine fn_def (ι := Nat) (td := true) (b := b_lowest) F S_lowest hm hb (fun i cdv A outer s H E _ c => ?_) (fun ds S0 _ _ => ⟨fu0 ds, rfl⟩)
  exact (ds_cons (ds_set 2 c.nd (de_call (F_divisor_of gf) c (da_cons (de_var 0) (da_cons (de_var 1) da_nil)) (by omega))) (ds_cons (ds_ret (de_tup (da_cons (de_op op_fdivW s_div.op (de_var 0) (de_var 2)) (da_cons (de_op op_fdivW s_div.op (de_var 1) (de_var 2)) da_nil)))) ds_nil))
def N_level_at : List Str := ["ray", "place", "top", "below", "rise", "length"]
theorem S_level_at : FnScope N_level_at ["ray", "place"] (defScope (top 29)) := C8.fnScope_by (by decide +kernel)
def b_level_at (i : Nat) : BS := (sSeq (sAsg (.tup [(.tup [(.name 2), (.name 3)]), (.tup [(.name 4), (.name 5)])]) (eVar 0)) (sSeq (sRet (eCall 2 r_lowest (aCons (e2 (g2 gAdd) (e2 (g2 gMul) (eVar 2) (eVar 5)) (e2 (g2 gMul) (e2 (g2 gMul) (eVar 4) (eVar 1)) (eVar 3))) (aCons (e2 (g2 gMul) (eVar 3) (eVar 5)) aNil)))) sNil))
def r_level_at : List D → M D := fun ds => fnOf true N_level_at.length (b_level_at (fu0 ds)) ds
theorem F_level_at (gf : GF K mg) : Fn P w K mg base T 3 "level_at" 2 r_level_at := by
  obtain ⟨f, fd, F, hm, hb⟩ := gf.f_level_at.ex
  refine fn_def (ι := Nat) (td := true) (b := b_level_at) F S_level_at hm hb (fun i cdv A outer s H E _ c => ?_) (fun ds S0 _ _ => ⟨fu0 ds, rfl⟩)
  exact (ds_cons (ds_asg (de_var 0) (dg_tup c.calm (dgs_cons (dg_tup c.calm (dgs_cons (dg_name 2 c.nd) (dgs_cons (dg_name 3 c.nd) dgs_nil))) (dgs_cons (dg_tup c.calm (dgs_cons (dg_name 4 c.nd) (dgs_cons (dg_name 5 c.nd) dgs_nil))) dgs_nil)))) (ds_cons (ds_ret (de_call (F_lowest gf) c (da_cons (de_op op_addZ s_add.op (de_op op_mulW s_mul.op (de_var 2) (de_var 5)) (de_op op_mulW s_mul.op (de_op op_mulW s_mul.op (de_var 4) (de_var 1)) (de_var 3))) (da_cons (de_op op_mulW s_mul.op (de_var 3) (de_var 5)) da_nil)) (by omega))) ds_nil))
def N_band_at : List Str := ["high", "level"]
theorem S_band_at : FnScope N_band_at ["high", "level"] (defScope (top 30)) := C8.fnScope_by (by decide +kernel)
def b_band_at (i : Nat) : BS := (sSeq (sRet (e2 (g2 gDiv) (e2 (g2 gIx) (eVar 1) (eC (.int 0))) (e2 (g2 gMul) (eVar 0) (e2 (g2 gIx) (eVar 1) (eC (.int 1)))))) sNil)
def r_band_at : List D → M D := fun ds => fnOf true N_band_at.length (b_band_at (fu0 ds)) ds
theorem F_band_at (gf : GF K mg) : Fn P w K mg base T 1 "band_at" 2 r_band_at := by
  obtain ⟨f, fd, F, hm, hb⟩ := gf.f_band_at.ex
  refine fn_def (ι := Nat) (td := true) (b := b_band_at) F S_band_at hm hb (fun i cdv A outer s H E _ c => ?_) (fun ds S0 _ _ => ⟨fu0 ds, rfl⟩)
  exact (ds_cons (ds_ret (de_op op_fdivW s_div.op (de_ix ix_seq s_ix.op (de_var 1) de_int) (de_op op_mulW s_mul.op (de_var 0) (de_ix ix_seq s_ix.op (de_var 1) de_int)))) ds_nil)
def N_height_at : List Str := ["high", "level", "top", "below", "band"]
theorem S_height_at : FnScope N_height_at ["high", "level"] (defScope (top 31)) := C8.fnScope_by (by decide +kernel)
def b_height_at (i : Nat) : BS := (sSeq (sAsg (.tup [(.name 2), (.name 3)]) (eVar 1)) (sSeq (sSet 4 (eCall 2 r_band_at (aCons (eVar 0) (aCons (eVar 1) aNil)))) (sSeq (sIf (tB1 (e2 (g2 gEq) (e2 (g2 gMod) (eVar 4) (eC (.int 2))) (eC (.int 0)))) (sSeq (sRet (eCall 2 r_lowest (aCons (e2 (g2 gSub) (eVar 2) (e2 (g2 gMul) (e2 (g2 gMul) (eVar 4) (eVar 0)) (eVar 3))) (aCons (eVar 3) aNil)))) sNil) sNil) (sSeq (sRet (eCall 2 r_lowest (aCons (e2 (g2 gSub) (e2 (g2 gMul) (e2 (g2 gMul) (e2 (g2 gAdd) (eVar 4) (eC (.int 1))) (eVar 0)) (eVar 3)) (eVar 2)) (aCons (eVar 3) aNil)))) sNil))))
def r_height_at : List D → M D := fun ds => fnOf true N_height_at.length (b_height_at (fu0 ds)) ds
theorem F_height_at (gf : GF K mg) : Fn P w K mg base T 3 "height_at" 2 r_height_at := by
  obtain ⟨f, fd, F, hm, hb⟩ := gf.f_height_at.ex
  refine fn_def (ι := Nat) (td := true) (b := b_height_at) F S_height_at hm hb (fun i cdv A outer s H E _ c => ?_) (fun ds S0 _ _ => ⟨fu0 ds, rfl⟩)
  exact (ds_cons (ds_asg (de_var 1) (dg_tup c.calm (dgs_cons (dg_name 2 c.nd) (dgs_cons (dg_name 3 c.nd) dgs_nil)))) (ds_cons (ds_set 4 c.nd (de_call (F_band_at gf) c (da_cons (de_var 0) (da_cons (de_var 1) da_nil)) (by omega))) (ds_cons (ds_if (dt_cmp (op_eqD c.hu64) s_eq.op (de_op op_mod s_mod.op (de_var 4) de_int) de_int (nomark _)) (ds_cons (ds_ret (de_call (F_lowest gf) c (da_cons (de_op op_subZ s_sub.op (de_var 2) (de_op op_mulW s_mul.op (de_op op_mulW s_mul.op (de_var 4) (de_var 0)) (de_var 3))) (da_cons (de_var 3) da_nil)) (by omega))) ds_nil) ds_nil) (ds_cons (ds_ret (de_call (F_lowest gf) c (da_cons (de_op op_subZ s_sub.op (de_op op_mulW s_mul.op (de_op op_mulW s_mul.op (de_op op_addZ s_add.op (de_var 4) de_int) (de_var 0)) (de_var 3)) (de_var 2)) (da_cons (de_var 3) da_nil)) (by omega))) ds_nil))))
def N_run : List Str := ["hall", "ray", "high", "walls", "end", "word", "place", "low", "top", "level", "band", "height"]
theorem S_run : FnScope N_run ["hall", "ray"] (defScope (top 32)) := C8.fnScope_by (by decide +kernel)
def b_run (i : Nat) : BS := (sSeq (sAsg (.tup [(.name 2), (.name 3), (.name 4)]) (eVar 0)) (sSeq (sSet 5 (eTup aNil)) (sSeq (sFor (iSeq (eVar 3)) (.tup [(.name 6), (.name 7), (.name 8)]) (sSeq (sSet 9 (eCall 2 r_level_at (aCons (eVar 1) (aCons (eVar 6) aNil)))) (sSeq (sPar 10 11 (eCall 2 r_band_at (aCons (eVar 2) (aCons (eVar 9) aNil))) (eCall 2 r_height_at (aCons (eVar 2) (aCons (eVar 9) aNil)))) (sSeq (sIf (bOr (tB1 (e2 (g2 gLt) (e2 (g2 gIx) (eVar 11) (eC (.int 0))) (e2 (g2 gMul) (eVar 7) (e2 (g2 gIx) (eVar 11) (eC (.int 1)))))) (tB1 (e2 (g2 gGt) (e2 (g2 gIx) (eVar 11) (eC (.int 0))) (e2 (g2 gMul) (eVar 8) (e2 (g2 gIx) (eVar 11) (eC (.int 1))))))) (sSeq (sRet (eTup (aCons (e2 (g2 gAdd) (eVar 5) (eTup (aCons (eTup (aCons (eIf (tB1 (e2 (g2 gLt) (e2 (g2 gIx) (eVar 11) (eC (.int 0))) (e2 (g2 gMul) (eVar 7) (e2 (g2 gIx) (eVar 11) (eC (.int 1)))))) (eC (.str "under")) (eC (.str "over"))) (aCons (eVar 10) aNil))) aNil))) (aCons (eTup (aCons (eVar 6) (aCons (eVar 11) aNil))) aNil)))) sNil) sNil) (sSeq (sSet 5 (e2 (g2 gAdd) (eVar 5) (eTup (aCons (eTup (aCons (eC (.str "through")) (aCons (eVar 10) aNil))) aNil)))) sNil))))) (sSeq (sSet 9 (eCall 2 r_level_at (aCons (eVar 1) (aCons (eVar 4) aNil)))) (sSeq (sRet (eTup (aCons (e2 (g2 gAdd) (eVar 5) (eTup (aCons (eTup (aCons (eC (.str "screen")) (aCons (eCall 2 r_band_at (aCons (eVar 2) (aCons (eVar 9) aNil))) aNil))) aNil))) (aCons (eTup (aCons (eVar 4) (aCons (eCall 2 r_height_at (aCons (eVar 2) (aCons (eVar 9) aNil))) aNil))) aNil)))) sNil)))))
def r_run : List D → M D := fun ds => fnOf true N_run.length (b_run (fu0 ds)) ds
theorem F_run (gf : GF K mg) : Fn P w K mg base T 4 "run" 2 r_run := by
  obtain ⟨f, fd, F, hm, hb⟩ := gf.f_run.ex
  refine fn_def (ι := Nat) (td := true) (b := b_run) F S_run hm hb (fun i cdv A outer s H E _ c => ?_) (fun ds S0 _ _ => ⟨fu0 ds, rfl⟩)
  exact (ds_cons (ds_asg (de_var 0) (dg_tup c.calm (dgs_cons (dg_name 2 c.nd) (dgs_cons (dg_name 3 c.nd) (dgs_cons (dg_name 4 c.nd) dgs_nil))))) (ds_cons (ds_set 5 c.nd (de_tup da_nil)) (ds_cons (ds_for c (di_seq (de_var 3)) (dg_tup c.calm (dgs_cons (dg_name 6 c.nd) (dgs_cons (dg_name 7 c.nd) (dgs_cons (dg_name 8 c.nd) dgs_nil)))) (ds_cons (ds_set 9 c.nd (de_call (F_level_at gf) c (da_cons (de_var 1) (da_cons (de_var 6) da_nil)) (by omega))) (ds_cons (ds_par 10 11 c.calm c.nd (de_call (F_band_at gf) c (da_cons (de_var 2) (da_cons (de_var 9) da_nil)) (by omega)) (de_call (F_height_at gf) c (da_cons (de_var 2) (da_cons (de_var 9) da_nil)) (by omega))) (ds_cons (ds_if (dt_w (dw_or (dt_cmp op_lt s_cmp.op (de_ix ix_seq s_ix.op (de_var 11) de_int) (de_op op_mulW s_mul.op (de_var 7) (de_ix ix_seq s_ix.op (de_var 11) de_int)) (nomark _)) (dw_or1 (dt_cmp op_gt s_cmp.op (de_ix ix_seq s_ix.op (de_var 11) de_int) (de_op op_mulW s_mul.op (de_var 8) (de_ix ix_seq s_ix.op (de_var 11) de_int)) (nomark _))))) (ds_cons (ds_ret (de_tup (da_cons (de_op op_addZ s_add.op (de_var 5) (de_tup (da_cons (de_tup (da_cons (de_if (dt_cmp op_lt s_cmp.op (de_ix ix_seq s_ix.op (de_var 11) de_int) (de_op op_mulW s_mul.op (de_var 7) (de_ix ix_seq s_ix.op (de_var 11) de_int)) (nomark _)) de_str de_str) (da_cons (de_var 10) da_nil))) da_nil))) (da_cons (de_tup (da_cons (de_var 6) (da_cons (de_var 11) da_nil))) da_nil)))) ds_nil) ds_nil) (ds_cons (ds_set 5 c.nd (de_op op_addZ s_add.op (de_var 5) (de_tup (da_cons (de_tup (da_cons de_str (da_cons (de_var 10) da_nil))) da_nil)))) ds_nil))))) (ds_cons (ds_set 9 c.nd (de_call (F_level_at gf) c (da_cons (de_var 1) (da_cons (de_var 4) da_nil)) (by omega))) (ds_cons (ds_ret (de_tup (da_cons (de_op op_addZ s_add.op (de_var 5) (de_tup (da_cons (de_tup (da_cons de_str (da_cons (de_call (F_band_at gf) c (da_cons (de_var 2) (da_cons (de_var 9) da_nil)) (by omega)) da_nil))) da_nil))) (da_cons (de_tup (da_cons (de_var 4) (da_cons (de_call (F_height_at gf) c (da_cons (de_var 2) (da_cons (de_var 9) da_nil)) (by omega)) da_nil))) da_nil)))) ds_nil)))))
def N_word_of : List Str := ["hall", "ray"]
theorem S_word_of : FnScope N_word_of ["hall", "ray"] (defScope (top 33)) := C8.fnScope_by (by decide +kernel)
def b_word_of (i : Nat) : BS := (sSeq (sExpr (eCall 1 r_need_hall (aCons (eVar 0) aNil))) (sSeq (sExpr (eCall 2 r_need_ray (aCons (eVar 0) (aCons (eVar 1) aNil)))) (sSeq (sRet (e2 (g2 gIx) (eCall 2 r_run (aCons (eVar 0) (aCons (eVar 1) aNil))) (eC (.int 0)))) sNil)))
def r_word_of : List D → M D := fun ds => fnOf true N_word_of.length (b_word_of (fu0 ds)) ds
theorem F_word_of (gf : GF K mg) : Fn P w K mg base T 5 "word_of" 2 r_word_of := by
  obtain ⟨f, fd, F, hm, hb⟩ := gf.f_word_of.ex
  refine fn_def (ι := Nat) (td := true) (b := b_word_of) F S_word_of hm hb (fun i cdv A outer s H E _ c => ?_) (fun ds S0 _ _ => ⟨fu0 ds, rfl⟩)
  exact (ds_cons (ds_expr (de_call (F_need_hall gf) c (da_cons (de_var 0) da_nil) (by omega))) (ds_cons (ds_expr (de_call (F_need_ray gf) c (da_cons (de_var 0) (da_cons (de_var 1) da_nil)) (by omega))) (ds_cons (ds_ret (de_ix ix_seq s_ix.op (de_call (F_run gf) c (da_cons (de_var 0) (da_cons (de_var 1) da_nil)) (by omega)) de_int)) ds_nil)))
def N_hit : List Str := ["hall", "ray"]
theorem S_hit : FnScope N_hit ["hall", "ray"] (defScope (top 34)) := C8.fnScope_by (by decide +kernel)
def b_hit (i : Nat) : BS := (sSeq (sExpr (eCall 1 r_need_hall (aCons (eVar 0) aNil))) (sSeq (sExpr (eCall 2 r_need_ray (aCons (eVar 0) (aCons (eVar 1) aNil)))) (sSeq (sRet (e2 (g2 gIx) (eCall 2 r_run (aCons (eVar 0) (aCons (eVar 1) aNil))) (eC (.int 1)))) sNil)))
def r_hit : List D → M D := fun ds => fnOf true N_hit.length (b_hit (fu0 ds)) ds
theorem F_hit (gf : GF K mg) : Fn P w K mg base T 5 "hit" 2 r_hit := by
  obtain ⟨f, fd, F, hm, hb⟩ := gf.f_hit.ex
  refine fn_def (ι := Nat) (td := true) (b := b_hit) F S_hit hm hb (fun i cdv A outer s H E _ c => ?_) (fun ds S0 _ _ => ⟨fu0 ds, rfl⟩)
  exact (ds_cons (ds_expr (de_call (F_need_hall gf) c (da_cons (de_var 0) da_nil) (by omega))) (ds_cons (ds_expr (de_call (F_need_ray gf) c (da_cons (de_var 0) (da_cons (de_var 1) da_nil)) (by omega))) (ds_cons (ds_ret (de_ix ix_seq s_ix.op (de_call (F_run gf) c (da_cons (de_var 0) (da_cons (de_var 1) da_nil)) (by omega)) de_int)) ds_nil)))
def N__law_lowest : List Str := ["_law_top", "_law_below", "_law_one", "_law_other"]
theorem S__law_lowest : FnScope N__law_lowest ["_law_top", "_law_below"] (defScope (top 42)) := C8.fnScope_by (by decide +kernel)
def b__law_lowest (i : Nat) : BS := (sSeq (sPar 2 3 (eCB (c1 gAbs) (aCons (eVar 0) aNil)) (eCB (c1 gAbs) (aCons (eVar 1) aNil))) (sSeq (whileM (tB1 (e2 (g2 gNe) (eVar 3) (eC (.int 0)))) (sSeq (sPar 2 3 (eVar 3) (e2 (g2 gMod) (eVar 2) (eVar 3))) sNil) i) (sSeq (sRet (eIf (tB1 (e2 (g2 gGt) (eVar 1) (eC (.int 0)))) (eTup (aCons (e2 (g2 gDiv) (eVar 0) (eVar 2)) (aCons (e2 (g2 gDiv) (eVar 1) (eVar 2)) aNil))) (eTup (aCons (e2 (g2 gDiv) (e1 (g1 gNeg) (eVar 0)) (eVar 2)) (aCons (e2 (g2 gDiv) (e1 (g1 gNeg) (eVar 1)) (eVar 2)) aNil))))) sNil)))
def r__law_lowest : List D → M D := fun ds => fnOf true N__law_lowest.length (b__law_lowest (fu2 ds)) ds
theorem F__law_lowest (gf : GF K mg) : Fn P w K mg base T 1 "_law_lowest" 2 r__law_lowest := by
  obtain ⟨f, fd, F, hm, hb⟩ := gf.f__law_lowest.ex
  refine fn_def (ι := Nat) (td := true) (b := b__law_lowest) F S__law_lowest hm hb (fun i cdv A outer s H E _ c => ?_) (fun ds S0 _ _ => ⟨fu2 ds, rfl⟩)
  exact (ds_cons (ds_par 2 3 c.calm c.nd (de_callB call_abs d_abs gf.z_abs bt_abs (da_cons (de_var 0) da_nil)) (de_callB call_abs d_abs gf.z_abs bt_abs (da_cons (de_var 1) da_nil))) (ds_cons (ds_while c (dt_cmp (op_neD c.hu64) s_ne.op (de_var 3) de_int (nomark _)) (ds_cons (ds_par 2 3 c.calm c.nd (de_var 3) (de_op op_mod s_mod.op (de_var 2) (de_var 3))) ds_nil)) (ds_cons (ds_ret (de_if (dt_cmp op_gt s_cmp.op (de_var 1) de_int (nomark _)) (de_tup (da_cons (de_op op_fdivW s_div.op (de_var 0) (de_var 2)) (da_cons (de_op op_fdivW s_div.op (de_var 1) (de_var 2)) da_nil))) (de_tup (da_cons (de_op op_fdivW s_div.op (de_un un_neg s_neg.op (de_var 0)) (de_var 2)) (da_cons (de_op op_fdivW s_div.op (de_un un_neg s_neg.op (de_var 1)) (de_var 2)) da_nil))))) ds_nil)))
def N__law_height : List Str := ["_law_hall_so", "_law_ray_here", "_law_place", "_law_top", "_law_below", "_law_rise", "_law_length", "_law_found"]
theorem S__law_height : FnScope N__law_height ["_law_hall_so", "_law_ray_here", "_law_place"] (defScope (top 46)) := C8.fnScope_by (by decide +kernel)
def b__law_height (i : Nat) : BS := (sSeq (sAsg (.tup [(.tup [(.name 3), (.name 4)]), (.tup [(.name 5), (.name 6)])]) (eVar 1)) (sSeq (sAsg (.tup [(.name 3), (.name 4)]) (eCall 2 r__law_lowest (aCons (e2 (g2 gAdd) (e2 (g2 gMul) (eVar 3) (eVar 6)) (e2 (g2 gMul) (e2 (g2 gMul) (eVar 5) (eVar 2)) (eVar 4))) (aCons (e2 (g2 gMul) (eVar 4) (eVar 6)) aNil)))) (sSeq (sSet 7 (eC (.int 0))) (sSeq (whileM (tB1 (e2 (g2 gLt) (eVar 3) (eC (.int 0)))) (sSeq (sPar 3 7 (e2 (g2 gAdd) (eVar 3) (e2 (g2 gMul) (e2 (g2 gIx) (eVar 0) (eC (.int 0))) (eVar 4))) (e2 (g2 gSub) (eVar 7) (eC (.int 1)))) sNil) i) (sSeq (whileM (tB1 (e2 (g2 gGe) (eVar 3) (e2 (g2 gMul) (e2 (g2 gIx) (eVar 0) (eC (.int 0))) (eVar 4)))) (sSeq (sPar 3 7 (e2 (g2 gSub) (eVar 3) (e2 (g2 gMul) (e2 (g2 gIx) (eVar 0) (eC (.int 0))) (eVar 4))) (e2 (g2 gAdd) (eVar 7) (eC (.int 1)))) sNil) i) (sSeq (sRet (eTup (aCons (eVar 7) (aCons (eCall 2 r__law_lowest (aCons (eIf (tB1 (e2 (g2 gEq) (e2 (g2 gMod) (eVar 7) (eC (.int 2))) (eC (.int 0)))) (eVar 3) (e2 (g2 gSub) (e2 (g2 gMul) (e2 (g2 gIx) (eVar 0) (eC (.int 0))) (eVar 4)) (eVar 3))) (aCons (eVar 4) aNil))) aNil)))) sNil))))))
def r__law_height : List D → M D := fun ds => fnOf true N__law_height.length (b__law_height (fu3 ds)) ds
theorem F__law_height (gf : GF K mg) : Fn P w K mg base T 2 "_law_height" 3 r__law_height := by
  obtain ⟨f, fd, F, hm, hb⟩ := gf.f__law_height.ex
  refine fn_def (ι := Nat) (td := true) (b := b__law_height) F S__law_height hm hb (fun i cdv A outer s H E _ c => ?_) (fun ds S0 _ _ => ⟨fu3 ds, rfl⟩)
  exact (ds_cons (ds_asg (de_var 1) (dg_tup c.calm (dgs_cons (dg_tup c.calm (dgs_cons (dg_name 3 c.nd) (dgs_cons (dg_name 4 c.nd) dgs_nil))) (dgs_cons (dg_tup c.calm (dgs_cons (dg_name 5 c.nd) (dgs_cons (dg_name 6 c.nd) dgs_nil))) dgs_nil)))) (ds_cons (ds_asg (de_call (F__law_lowest gf) c (da_cons (de_op op_addZ s_add.op (de_op op_mulW s_mul.op (de_var 3) (de_var 6)) (de_op op_mulW s_mul.op (de_op op_mulW s_mul.op (de_var 5) (de_var 2)) (de_var 4))) (da_cons (de_op op_mulW s_mul.op (de_var 4) (de_var 6)) da_nil)) (by omega)) (dg_tup c.calm (dgs_cons (dg_name 3 c.nd) (dgs_cons (dg_name 4 c.nd) dgs_nil)))) (ds_cons (ds_set 7 c.nd de_int) (ds_cons (ds_while c (dt_cmp op_lt s_cmp.op (de_var 3) de_int (nomark _)) (ds_cons (ds_par 3 7 c.calm c.nd (de_op op_addZ s_add.op (de_var 3) (de_op op_mulW s_mul.op (de_ix ix_seq s_ix.op (de_var 0) de_int) (de_var 4))) (de_op op_subZ s_sub.op (de_var 7) de_int)) ds_nil)) (ds_cons (ds_while c (dt_cmp op_ge s_cmp.op (de_var 3) (de_op op_mulW s_mul.op (de_ix ix_seq s_ix.op (de_var 0) de_int) (de_var 4)) (nomark _)) (ds_cons (ds_par 3 7 c.calm c.nd (de_op op_subZ s_sub.op (de_var 3) (de_op op_mulW s_mul.op (de_ix ix_seq s_ix.op (de_var 0) de_int) (de_var 4))) (de_op op_addZ s_add.op (de_var 7) de_int)) ds_nil)) (ds_cons (ds_ret (de_tup (da_cons (de_var 7) (da_cons (de_call (F__law_lowest gf) c (da_cons (de_if (dt_cmp (op_eqD c.hu64) s_eq.op (de_op op_mod s_mod.op (de_var 7) de_int) de_int (nomark _)) (de_var 3) (de_op op_subZ s_sub.op (de_op op_mulW s_mul.op (de_ix ix_seq s_ix.op (de_var 0) de_int) (de_var 4)) (de_var 3))) (da_cons (de_var 4) da_nil)) (by omega)) da_nil)))) ds_nil))))))
def N__law_less : List Str := ["_law_one", "_law_other"]
theorem S__law_less : FnScope N__law_less ["_law_one", "_law_other"] (defScope (top 43)) := C8.fnScope_by (by decide +kernel)
def b__law_less (i : Nat) : BS := (sSeq (sRet (e2 (g2 gLt) (e2 (g2 gMul) (e2 (g2 gIx) (eVar 0) (eC (.int 0))) (e2 (g2 gIx) (eVar 1) (eC (.int 1)))) (e2 (g2 gMul) (e2 (g2 gIx) (eVar 1) (eC (.int 0))) (e2 (g2 gIx) (eVar 0) (eC (.int 1)))))) sNil)
def r__law_less : List D → M D := fun ds => fnOf true N__law_less.length (b__law_less (fu0 ds)) ds
theorem F__law_less (gf : GF K mg) : Fn P w K mg base T 1 "_law_less" 2 r__law_less := by
  obtain ⟨f, fd, F, hm, hb⟩ := gf.f__law_less.ex
  refine fn_def (ι := Nat) (td := true) (b := b__law_less) F S__law_less hm hb (fun i cdv A outer s H E _ c => ?_) (fun ds S0 _ _ => ⟨fu0 ds, rfl⟩)
  exact (ds_cons (ds_ret (de_cmp op_lt s_cmp.op (de_op op_mulW s_mul.op (de_ix ix_seq s_ix.op (de_var 0) de_int) (de_ix ix_seq s_ix.op (de_var 1) de_int)) (de_op op_mulW s_mul.op (de_ix ix_seq s_ix.op (de_var 1) de_int) (de_ix ix_seq s_ix.op (de_var 0) de_int)) (nomark _))) ds_nil)
def N__law_run : List Str := ["_law_hall_so", "_law_ray_here", "_law_events_so", "_law_place", "_law_low", "_law_top", "_law_band", "_law_height_so"]
theorem S__law_run : FnScope N__law_run ["_law_hall_so", "_law_ray_here"] (defScope (top 47)) := C8.fnScope_by (by decide +kernel)
def b__law_run (i : Nat) : BS := (sSeq (sSet 2 (eTup aNil)) (sSeq (sFor (iSeq (e2 (g2 gIx) (eVar 0) (eC (.int 1)))) (.tup [(.name 3), (.name 4), (.name 5)]) (sSeq (sAsg (.tup [(.name 6), (.name 7)]) (eCall 3 r__law_height (aCons (eVar 0) (aCons (eVar 1) (aCons (eVar 3) aNil))))) (sSeq (sIf (bTru (eCall 2 r__law_less (aCons (eVar 7) (aCons (eTup (aCons (eVar 4) (aCons (eC (.int 1)) aNil))) aNil)))) (sSeq (sRet (eTup (aCons (e2 (g2 gAdd) (eVar 2) (eTup (aCons (eTup (aCons (eC (.str "under")) (aCons (eVar 6) aNil))) aNil))) (aCons (eVar 3) (aCons (eVar 7) aNil))))) sNil) sNil) (sSeq (sIf (bTru (eCall 2 r__law_less (aCons (eTup (aCons (eVar 5) (aCons (eC (.int 1)) aNil))) (aCons (eVar 7) aNil)))) (sSeq (sRet (eTup (aCons (e2 (g2 gAdd) (eVar 2) (eTup (aCons (eTup (aCons (eC (.str "over")) (aCons (eVar 6) aNil))) aNil))) (aCons (eVar 3) (aCons (eVar 7) aNil))))) sNil) sNil) (sSeq (sSet 2 (e2 (g2 gAdd) (eVar 2) (eTup (aCons (eTup (aCons (eC (.str "through")) (aCons (eVar 6) aNil))) aNil)))) sNil))))) (sSeq (sAsg (.tup [(.name 6), (.name 7)]) (eCall 3 r__law_height (aCons (eVar 0) (aCons (eVar 1) (aCons (e2 (g2 gIx) (eVar 0) (eC (.int 2))) aNil))))) (sSeq (sRet (eTup (aCons (e2 (g2 gAdd) (eVar 2) (eTup (aCons (eTup (aCons (eC (.str "screen")) (aCons (eVar 6) aNil))) aNil))) (aCons (e2 (g2 gIx) (eVar 0) (eC (.int 2))) (aCons (eVar 7) aNil))))) sNil))))
def r__law_run : List D → M D := fun ds => fnOf true N__law_run.length (b__law_run (fu0 ds)) ds
theorem F__law_run (gf : GF K mg) : Fn P w K mg base T 3 "_law_run" 2 r__law_run := by
  obtain ⟨f, fd, F, hm, hb⟩ := gf.f__law_run.ex
  refine fn_def (ι := Nat) (td := true) (b := b__law_run) F S__law_run hm hb (fun i cdv A outer s H E _ c => ?_) (fun ds S0 _ _ => ⟨fu0 ds, rfl⟩)
  exact (ds_cons (ds_set 2 c.nd (de_tup da_nil)) (ds_cons (ds_for c (di_seq (de_ix ix_seq s_ix.op (de_var 0) de_int)) (dg_tup c.calm (dgs_cons (dg_name 3 c.nd) (dgs_cons (dg_name 4 c.nd) (dgs_cons (dg_name 5 c.nd) dgs_nil)))) (ds_cons (ds_asg (de_call (F__law_height gf) c (da_cons (de_var 0) (da_cons (de_var 1) (da_cons (de_var 3) da_nil))) (by omega)) (dg_tup c.calm (dgs_cons (dg_name 6 c.nd) (dgs_cons (dg_name 7 c.nd) dgs_nil)))) (ds_cons (ds_if (dt_tru (de_call (F__law_less gf) c (da_cons (de_var 7) (da_cons (de_tup (da_cons (de_var 4) (da_cons de_int da_nil))) da_nil)) (by omega))) (ds_cons (ds_ret (de_tup (da_cons (de_op op_addZ s_add.op (de_var 2) (de_tup (da_cons (de_tup (da_cons de_str (da_cons (de_var 6) da_nil))) da_nil))) (da_cons (de_var 3) (da_cons (de_var 7) da_nil))))) ds_nil) ds_nil) (ds_cons (ds_if (dt_tru (de_call (F__law_less gf) c (da_cons (de_tup (da_cons (de_var 5) (da_cons de_int da_nil))) (da_cons (de_var 7) da_nil)) (by omega))) (ds_cons (ds_ret (de_tup (da_cons (de_op op_addZ s_add.op (de_var 2) (de_tup (da_cons (de_tup (da_cons de_str (da_cons (de_var 6) da_nil))) da_nil))) (da_cons (de_var 3) (da_cons (de_var 7) da_nil))))) ds_nil) ds_nil) (ds_cons (ds_set 2 c.nd (de_op op_addZ s_add.op (de_var 2) (de_tup (da_cons (de_tup (da_cons de_str (da_cons (de_var 6) da_nil))) da_nil)))) ds_nil))))) (ds_cons (ds_asg (de_call (F__law_height gf) c (da_cons (de_var 0) (da_cons (de_var 1) (da_cons (de_ix ix_seq s_ix.op (de_var 0) de_int) da_nil))) (by omega)) (dg_tup c.calm (dgs_cons (dg_name 6 c.nd) (dgs_cons (dg_name 7 c.nd) dgs_nil)))) (ds_cons (ds_ret (de_tup (da_cons (de_op op_addZ s_add.op (de_var 2) (de_tup (da_cons (de_tup (da_cons de_str (da_cons (de_var 6) da_nil))) da_nil))) (da_cons (de_ix ix_seq s_ix.op (de_var 0) de_int) (da_cons (de_var 7) da_nil))))) ds_nil))))
def N__law_named_error : List Str := ["_law_e", "_law_some", "_law_words_so", "_law_word", "_law_good"]
theorem S__law_named_error : FnScope N__law_named_error ["_law_e"] (defScope (top 48)) := C8.fnScope_by (by decide +kernel)
def b__law_named_error (a : Addr) (cn : Str) : BS := (sSeq (sSet 1 (eCel (aCons (eIsE a (decide (cn = "InvalidHall")) (eVar 0)) (aCons (eIsE a (decide (cn = "InvalidRay")) (eVar 0)) (aCons (eIsE a (decide (cn = "InvalidWord")) (eVar 0)) aNil))))) (sSeq (sSet 1 (e2 (g2 gAddC) (eVar 1) (eLst (aCons (eIsE a (decide (cn = "InvalidWall")) (eVar 0)) (aCons (eIsE a (decide (cn = "InvalidPaper")) (eVar 0)) (aCons (eIsE a (decide (cn = "InvalidFacts")) (eVar 0)) aNil)))))) (sSeq (sSet 1 (e2 (g2 gAddC) (eVar 1) (eLst (aCons (eIsE a (decide (cn = "InvalidDeed")) (eVar 0)) (aCons (eIsE a (decide (cn = "InvalidText")) (eVar 0)) (aCons (eIsE a (decide (cn = "Unlike")) (eVar 0)) aNil)))))) (sSeq (sExpr (eApp (eVar 1) (eIsE a (decide (cn = "NothingToUndo")) (eVar 0)))) (sSeq (sSet 2 (eC (.str "hall ray word wall paper facts deed text unlike undo"))) (sSeq (sRet (eS1 (fun a b => rd b >>= gJoin a) (eC (.str " ")) (ePick (eS1 gSplit (eVar 2) (eC (.str " "))) (eVar 1)))) sNil))))))
theorem words_split : gSplit "hall ray word wall paper facts deed text unlike undo" (.str " ") = pure (.list [.str "hall", .str "ray", .str "word", .str "wall", .str "paper", .str "facts", .str "deed", .str "text", .str "unlike", .str "undo"]) := by
  have e : Txt.split "hall ray word wall paper facts deed text unlike undo" " " = (["hall", "ray", "word", "wall", "paper", "facts", "deed", "text", "unlike", "undo"] : List Str) := by decide +kernel
  unfold gSplit
  dsimp only
  rw [if_pos (by decide +kernel), e]
  rfl
theorem join_one (w : Str) (h1 : Txt.join " " [w] = w) (h2 : ([w].map (·.length)).sum + [w].length * (" " : Str).length ≤ 1000000) : gJoin " " (.list [.str w]) = pure (.str w) := by
  have e : strD [.str w] = some [w] := rfl
  unfold gJoin
  dsimp only
  rw [e]
  simp only [Option.bind_some]
  rw [if_pos h2, h1]
  rfl
theorem named_eval (a : Addr) (cn : Str) (S0 : Store) (hc : cn ∈ (["InvalidHall", "InvalidRay", "InvalidWord", "InvalidWall", "InvalidPaper", "InvalidFacts", "InvalidDeed", "InvalidText", "Unlike", "NothingToUndo"] : List Str)) : fnOf true N__law_named_error.length (b__law_named_error a cn) [.adr a] S0 = .ok (.str (wdE cn)) S0 := by
  have h0 : ∀ b0 b1 b2 b3 b4 b5 b6 b7 b8 b9 : Bool, decide (cn = "InvalidHall") = b0 → decide (cn = "InvalidRay") = b1 → decide (cn = "InvalidWord") = b2 → decide (cn = "InvalidWall") = b3 → decide (cn = "InvalidPaper") = b4 → decide (cn = "InvalidFacts") = b5 → decide (cn = "InvalidDeed") = b6 → decide (cn = "InvalidText") = b7 → decide (cn = "Unlike") = b8 → decide (cn = "NothingToUndo") = b9 →
      ∀ r : Str, gJoin " " (.list (pickD [.str "hall", .str "ray", .str "word", .str "wall", .str "paper", .str "facts", .str "deed", .str "text", .str "unlike", .str "undo"] [b0, b1, b2, b3, b4, b5, b6, b7, b8, b9])) = pure (.str r) → fnOf true N__law_named_error.length (b__law_named_error a cn) [.adr a] S0 = .ok (.str r) S0 := by
    intro b0 b1 b2 b3 b4 b5 b6 b7 b8 b9 h0 h1 h2 h3 h4 h5 h6 h7 h8 h9 r hr
    simp [fnOf, b__law_named_error, N__law_named_error, endF, endT, sSeq, sNil, sSet, sExpr, sRet, thenS, eCel, eLst, aCons, aNil, eIsE, eVar, eC, e2, g2, gAddC, newCell, fixDs, fixD, rd, bd_ap, eApp, isCell, push, cellAt, setCell, eS1, isStr, ePick, words_split, gPick, bools, h0, h1, h2, h3, h4, h5, h6, h7, h8, h9, hr]
  simp only [List.mem_cons, List.not_mem_nil, or_false] at hc
  rcases hc with rfl | rfl | rfl | rfl | rfl | rfl | rfl | rfl | rfl | rfl
  · rw [show wdE "InvalidHall" = "hall" by decide +kernel]
    exact h0 true false false false false false false false false false (by decide +kernel) (by decide +kernel) (by decide +kernel) (by decide +kernel) (by decide +kernel) (by decide +kernel) (by decide +kernel) (by decide +kernel) (by decide +kernel) (by decide +kernel) _ (join_one "hall" (by decide +kernel) (by decide +kernel))
  · rw [show wdE "InvalidRay" = "ray" by decide +kernel]
    exact h0 false true false false false false false false false false (by decide +kernel) (by decide +kernel) (by decide +kernel) (by decide +kernel) (by decide +kernel) (by decide +kernel) (by decide +kernel) (by decide +kernel) (by decide +kernel) (by decide +kernel) _ (join_one "ray" (by decide +kernel) (by decide +kernel))
  · rw [show wdE "InvalidWord" = "word" by decide +kernel]
    exact h0 false false true false false false false false false false (by decide +kernel) (by decide +kernel) (by decide +kernel) (by decide +kernel) (by decide +kernel) (by decide +kernel) (by decide +kernel) (by decide +kernel) (by decide +kernel) (by decide +kernel) _ (join_one "word" (by decide +kernel) (by decide +kernel))
  · rw [show wdE "InvalidWall" = "wall" by decide +kernel]
    exact h0 false false false true false false false false false false (by decide +kernel) (by decide +kernel) (by decide +kernel) (by decide +kernel) (by decide +kernel) (by decide +kernel) (by decide +kernel) (by decide +kernel) (by decide +kernel) (by decide +kernel) _ (join_one "wall" (by decide +kernel) (by decide +kernel))
  · rw [show wdE "InvalidPaper" = "paper" by decide +kernel]
    exact h0 false false false false true false false false false false (by decide +kernel) (by decide +kernel) (by decide +kernel) (by decide +kernel) (by decide +kernel) (by decide +kernel) (by decide +kernel) (by decide +kernel) (by decide +kernel) (by decide +kernel) _ (join_one "paper" (by decide +kernel) (by decide +kernel))
  · rw [show wdE "InvalidFacts" = "facts" by decide +kernel]
    exact h0 false false false false false true false false false false (by decide +kernel) (by decide +kernel) (by decide +kernel) (by decide +kernel) (by decide +kernel) (by decide +kernel) (by decide +kernel) (by decide +kernel) (by decide +kernel) (by decide +kernel) _ (join_one "facts" (by decide +kernel) (by decide +kernel))
  · rw [show wdE "InvalidDeed" = "deed" by decide +kernel]
    exact h0 false false false false false false true false false false (by decide +kernel) (by decide +kernel) (by decide +kernel) (by decide +kernel) (by decide +kernel) (by decide +kernel) (by decide +kernel) (by decide +kernel) (by decide +kernel) (by decide +kernel) _ (join_one "deed" (by decide +kernel) (by decide +kernel))
  · rw [show wdE "InvalidText" = "text" by decide +kernel]
    exact h0 false false false false false false false true false false (by decide +kernel) (by decide +kernel) (by decide +kernel) (by decide +kernel) (by decide +kernel) (by decide +kernel) (by decide +kernel) (by decide +kernel) (by decide +kernel) (by decide +kernel) _ (join_one "text" (by decide +kernel) (by decide +kernel))
  · rw [show wdE "Unlike" = "unlike" by decide +kernel]
    exact h0 false false false false false false false false true false (by decide +kernel) (by decide +kernel) (by decide +kernel) (by decide +kernel) (by decide +kernel) (by decide +kernel) (by decide +kernel) (by decide +kernel) (by decide +kernel) (by decide +kernel) _ (join_one "unlike" (by decide +kernel) (by decide +kernel))
  · rw [show wdE "NothingToUndo" = "undo" by decide +kernel]
    exact h0 false false false false false false false false false true (by decide +kernel) (by decide +kernel) (by decide +kernel) (by decide +kernel) (by decide +kernel) (by decide +kernel) (by decide +kernel) (by decide +kernel) (by decide +kernel) (by decide +kernel) _ (join_one "undo" (by decide +kernel) (by decide +kernel))

theorem E__law_named_error (gf : GF K mg) : Named P w K mg base T 1 "_law_named_error" ["InvalidHall", "InvalidRay", "InvalidWord", "InvalidWall", "InvalidPaper", "InvalidFacts", "InvalidDeed", "InvalidText", "Unlike", "NothingToUndo"] wdE := by
  obtain ⟨f, fd, F, hm, hb⟩ := gf.f__law_named_error.ex
  refine named_def (k := 0) (b := b__law_named_error) F S__law_named_error hm hb (fun a oe cn C cdv A outer s H E hc hC hz hf hp hot => ?_) (fun a cn S0 hc => ?_)
  · have nd : N__law_named_error.Nodup := S__law_named_error.nd
    exact (ds_cons (ds_set 1 nd (de_cel (da_cons (de_isE (de_var 0) gf.ec hp hz hf hc hC (by simp) gf.z_isinstance bt_isinstance) (da_cons (de_isE (de_var 0) gf.ec hp hz hf hc hC (by simp) gf.z_isinstance bt_isinstance) (da_cons (de_isE (de_var 0) gf.ec hp hz hf hc hC (by simp) gf.z_isinstance bt_isinstance) da_nil))))) (ds_cons (ds_set 1 nd (de_op op_cat s_addC.op (de_var 1) (de_lst (da_cons (de_isE (de_var 0) gf.ec hp hz hf hc hC (by simp) gf.z_isinstance bt_isinstance) (da_cons (de_isE (de_var 0) gf.ec hp hz hf hc hC (by simp) gf.z_isinstance bt_isinstance) (da_cons (de_isE (de_var 0) gf.ec hp hz hf hc hC (by simp) gf.z_isinstance bt_isinstance) da_nil)))))) (ds_cons (ds_set 1 nd (de_op op_cat s_addC.op (de_var 1) (de_lst (da_cons (de_isE (de_var 0) gf.ec hp hz hf hc hC (by simp) gf.z_isinstance bt_isinstance) (da_cons (de_isE (de_var 0) gf.ec hp hz hf hc hC (by simp) gf.z_isinstance bt_isinstance) (da_cons (de_isE (de_var 0) gf.ec hp hz hf hc hC (by simp) gf.z_isinstance bt_isinstance) da_nil)))))) (ds_cons (ds_expr (de_append (de_var 1) (de_isE (de_var 0) gf.ec hp hz hf hc hC (by simp) gf.z_isinstance bt_isinstance))) (ds_cons (ds_set 2 nd de_str) (ds_cons (ds_ret (de_join de_str (de_pick (i := 3) (j := 4) hot nd (de_split (de_var 2) de_str) (de_var 1) gf.z_zip (ok := by exact (show BlkOk N__law_named_error (defScope (top 48)) _ _ from blkOk_by (by decide +kernel)))))) ds_nil))))))
  · exact named_eval a cn S0 hc
def N__law_error : List Str := ["_law_call", "_law_e"]
theorem S__law_error : FnScope N__law_error ["_law_call"] (defScope (top 49)) := C8.fnScope_by (by decide +kernel)
def hE__law_error (c : Str) : D := .str (wdE c)
def G__law_error := G_err ["InvalidHall", "InvalidRay", "InvalidWord", "InvalidWall", "InvalidPaper", "InvalidFacts", "InvalidDeed", "InvalidText", "Unlike", "NothingToUndo"] (fun _ => .str "") hE__law_error
def b__law_error (fl : Addr) (g : List D → M D) : BS := (sSeq (sTryR ["InvalidHall", "InvalidRay", "InvalidWord", "InvalidWall", "InvalidPaper", "InvalidFacts", "InvalidDeed", "InvalidText", "Unlike", "NothingToUndo"] 1 hE__law_error (sSeq (sExpr (eCallV fl 0 g (eVar 0) aNil)) sNil)) (sSeq (sRet (eC (.str ""))) sNil))
theorem hfs__law_error (a : Addr) (cn : Str) (env : Ev) (S : Store) (hi : 1 < env.length) : sSeq (sRet (eIf (bTru (eIsE a true (eVar 1))) (eNamed a (wdE cn) (eVar 1)) (eC (.str "odd")))) sNil (env.set 1 (some (.adr a))) S = .ret (hE__law_error cn) S := by
  have e : (env.set 1 (some (D.adr a)))[1]? = some (some (.adr a)) := List.getElem?_set_self hi
  simp [sSeq, sRet, thenS, eIf, bTru, tru, eIsE, eNamed, eVar, eC, e, bd_ap, hE__law_error]
theorem hev__law_error (fl : Addr) (g : List D → M D) (ds : List D) (S0 : Store) (hd : ds.length = 0) (hne : G__law_error g ds S0 ≠ .no) : fnOf false N__law_error.length (b__law_error fl g) (.adr fl :: ds) S0 = G__law_error g ds S0 := by
  obtain rfl := List.length_eq_zero_iff.mp hd
  unfold G__law_error G_err at hne ⊢
  simp only [fnOf, b__law_error, sTryR, sSeq, sExpr, thenS, eCallV, eVar, aNil, sRet, eC, sNil, N__law_error]
  simp only [List.map_cons, List.map_nil, List.cons_append, List.nil_append, List.length_cons, List.length_nil, List.getElem?_cons_zero, Option.getD_some, ofO_some, pure_bd, isAdr, if_true, bd_ap, pure_ap, endF]
  cases eg : g [] S0 with
  | ok d S' => simp
  | err c S' =>
    rw [eg] at hne
    dsimp only at hne ⊢
    by_cases h : c ∈ (["InvalidHall", "InvalidRay", "InvalidWord", "InvalidWall", "InvalidPaper", "InvalidFacts", "InvalidDeed", "InvalidText", "Unlike", "NothingToUndo"] : List Str)
    · rw [if_pos h, if_pos ⟨h, by simp⟩]
      simp
    · rw [if_neg h] at hne
      exact absurd rfl hne
  | no => simp

theorem H__law_error (gf : GF K mg) {k : Nat} (hk : 1 ≤ k) : HFn P w K mg base T k "_law_error" 0 0 G__law_error := by
  obtain ⟨f, fd, F, hm, hb⟩ := gf.f__law_error.ex
  obtain ⟨CS, hCS⟩ := gf.c_AimError
  refine hfn_def (ι := Unit) (td := false) (b := fun _ => b__law_error) F S__law_error hm hb rfl (fun _ fl g cdv A outer s H E O0 _ lp lc c => ?_) (fun fl g ds S0 hd hne => ⟨(), ?_⟩)
  · exact (ds_cons (ds_tryR (i := 1) (fs := fun a cn => (sSeq (sRet (eIf (bTru (eIsE a true (eVar 1))) (eNamed a (wdE cn) (eVar 1)) (eC (.str "odd")))) sNil)) (h := hE__law_error) c hCS (fun cn hc C hC => gf.ec.bas cn hc C CS hC hCS) (fun pn xe E1 c => (ds_cons (ds_expr (de_callV0 lp (lc pn xe) c (de_var 0) (by omega))) ds_nil)) (fun a oe cn C pn hc hC hz hf => have hp : (a, oe) ∈ (a, oe) :: pn := List.mem_cons_self; have hr := roomH_mark (a := a) (c.room.mono (show 1 ≤ _ by omega)); (ds_cons (ds_ret (de_if (dt_tru (de_isEV (de_var 1) gf.ec hp hz.zc hf hc hC gf.z_isinstance bt_isinstance gf.z_ValueError bt_ValueError)) (de_named (E__law_named_error gf) hr rfl hp hz hf hc hC (de_var 1)) de_str)) ds_nil)) (fun a cn env S hc hi => hfs__law_error a cn env S hi)) (ds_cons (ds_ret de_str) ds_nil))
  · exact hev__law_error fl g ds S0 hd hne
def N__law_all_refused : List Str := ["_law_call", "_law_odds", "_law_name", "_law_odd"]
theorem S__law_all_refused : FnScope N__law_all_refused ["_law_call", "_law_odds", "_law_name"] (defScope (top 51)) := C8.fnScope_by (by decide +kernel)
def G__law_all_refused := G_refused G__law_error
def blk__law_all_refused : Scope := blkScope (defBody (top 51)) (defScope (top 51))
def b__law_all_refused (fl : Addr) (g : List D → M D) : BS := (sSeq (sRet (e2 (g2 gEq) (eLc [3] (iSeq (eVar 1)) (.name 3) (tB1 (e2 (g2 gNe) (eHof 0 2 [0, 3] (eCallV fl 1 g (eVar 0) (aCons (eVar 1) aNil)) (G__law_error) aNil) (eVar 2))) (eVar 3)) (eLst aNil))) sNil)
theorem refused_comp (fl : Addr) (g : List D → M D) (nm : D) (o : Option D) (xs0 : List D) : ∀ (xs acc : List D) (S : Store), acc.length + xs.length ≤ 1000000 → refM G__law_error g nm xs acc S ≠ .no →
    compM (fun _ => true) (.name 3) (tB1 (e2 (g2 gNe) (eHof 0 2 [0, 3] (eCallV fl 1 g (eVar 0) (aCons (eVar 1) aNil)) (G__law_error) aNil) (eVar 2))) (eVar 3) [some (.adr fl), some (.list xs0), some nm, o] xs acc S = refM G__law_error g nm xs acc S
  | [], acc, S, _, _ => rfl
  | d :: ds, acc, S, hl, hne => by
    rw [List.length_cons] at hl
    have e1 : (e2 (g2 gNe) (eHof 0 2 [0, 3] (eCallV fl 1 g (eVar 0) (aCons (eVar 1) aNil)) (G__law_error) aNil) (eVar 2)) [some (.adr fl), some (.list xs0), some nm, some d] = (G__law_error (fun _ => g [d]) [] >>= fun r => g2 gNe r nm) := by
      have e2' : (fun as => eCallV fl 1 g (eVar 0) (aCons (eVar 1) aNil) (lamEv 2 [0, 3] [some (.adr fl), some (.list xs0), some nm, some d] as)) [] = g [d] := by
        simp [eCallV, eVar, lamEv, isAdr, aCons, aNil]
      have e3 : G__law_error (fun as => eCallV fl 1 g (eVar 0) (aCons (eVar 1) aNil) (lamEv 2 [0, 3] [some (.adr fl), some (.list xs0), some nm, some d] as)) [] = G__law_error (fun _ => g [d]) [] := by
        unfold G__law_error G_err
        funext S
        dsimp only
        rw [show eCallV fl 1 g (eVar 0) (aCons (eVar 1) aNil) (lamEv 2 [0, 3] [some (.adr fl), some (.list xs0), some nm, some d] []) = g [d] from e2']
      show ((aNil _ >>= fun ds => if ds.length = 0 then G__law_error (fun as => eCallV fl 1 g (eVar 0) (aCons (eVar 1) aNil) (lamEv 2 [0, 3] [some (.adr fl), some (.list xs0), some nm, some d] as)) ds else no) >>= fun a => eVar 2 _ >>= fun b => g2 gNe a b) = _
      simp [aNil, eVar, e3]
    unfold refM at hne ⊢
    unfold compM
    rw [if_pos rfl]
    show (match tB1 _ [some (.adr fl), some (.list xs0), some nm, some d] S with
      | .ok true S1 => _
      | .ok false S1 => _
      | _ => _) = _
    have e4 : tB1 (e2 (g2 gNe) (eHof 0 2 [0, 3] (eCallV fl 1 g (eVar 0) (aCons (eVar 1) aNil)) (G__law_error) aNil) (eVar 2)) [some (.adr fl), some (.list xs0), some nm, some d] S = ((G__law_error (fun _ => g [d]) [] >>= fun r => g2 gNe r nm) >>= fun a => match a with | .bool b => pure b | _ => no) S := by
      unfold tB1
      rw [e1]
      all_goals rfl
    rw [e4, bd_ap]
    cases e : (G__law_error (fun _ => g [d]) [] >>= fun r => g2 gNe r nm) S with
    | no => exact absurd (by rw [e]) hne
    | err c S' => exact absurd (by rw [e]) hne
    | ok r S' =>
      rw [e] at hne
      cases r with
      | bool b =>
        cases b with
        | true =>
          show (if acc.length < 1000000 then compM _ _ _ _ _ ds (acc ++ [d]) S' else Res.no) = _
          rw [if_pos (by omega)]
          exact refused_comp fl g nm o xs0 ds (acc ++ [d]) S' (by simp; omega) hne
        | false => exact refused_comp fl g nm o xs0 ds acc S' (by omega) hne
      | _ => exact absurd rfl hne
theorem hev__law_all_refused (fl : Addr) (g : List D → M D) (ds : List D) (S0 : Store) (hd : ds.length = 2) (hne : G__law_all_refused g ds S0 ≠ .no) : fnOf true N__law_all_refused.length (b__law_all_refused fl g) (.adr fl :: ds) S0 = G__law_all_refused g ds S0 := by
  unfold G__law_all_refused at hne ⊢
  match ds, hd with
  | [a, nm], _ =>
    cases a with
    | list xs =>
      unfold G_refused at hne ⊢
      dsimp only at hne ⊢
      split at hne
      · rename_i hl
        rw [if_pos hl]
        have hne2 : refM G__law_error g nm xs [] S0 ≠ .no := fun z => by
          rw [bd_ap, z] at hne
          exact hne rfl
        have key := refused_comp fl g nm none xs xs [] S0 (by simpa using hl) hne2
        have e : (eLc [3] (iSeq (eVar 1)) (.name 3) (tB1 (e2 (g2 gNe) (eHof 0 2 [0, 3] (eCallV fl 1 g (eVar 0) (aCons (eVar 1) aNil)) (G__law_error) aNil) (eVar 2))) (eVar 3)) [some (.adr fl), some (.list xs), some nm, none] S0 = (refM G__law_error g nm xs [] >>= fun r => pure (D.list r)) S0 := by
          show (runLc (.name 3) _ (eVar 3) [some (.adr fl), some (.list xs), some nm, none] ⟨xs, fun _ => true⟩ >>= fun r => pure (D.list r)) S0 = _
          rw [bd_ap, bd_ap]
          unfold runLc
          rw [key]
        show endF true S0.length (sSeq (sRet (e2 (g2 gEq) _ (eLst aNil))) sNil [some (.adr fl), some (.list xs), some nm, none] S0) = _
        have e5 : e2 (g2 gEq) (eLc [3] (iSeq (eVar 1)) (.name 3) (tB1 (e2 (g2 gNe) (eHof 0 2 [0, 3] (eCallV fl 1 g (eVar 0) (aCons (eVar 1) aNil)) (G__law_error) aNil) (eVar 2))) (eVar 3)) (eLst aNil) [some (.adr fl), some (.list xs), some nm, none] S0 = (refM G__law_error g nm xs [] >>= fun r => g2 gEq (.list r) (.list [])) S0 := by
          have e2q : ∀ (f1 f2 : BE) (env : Ev) (S : Store), e2 (g2 gEq) f1 f2 env S = (match f1 env S with | .ok a S' => (f2 env >>= fun b => g2 gEq a b) S' | .err c S' => .err c S' | .no => .no) := fun f1 f2 env S => by
            show ((f1 env >>= fun a => f2 env >>= fun b => g2 gEq a b) S) = _
            rw [bd_ap]
            cases f1 env S <;> rfl
          rw [e2q, e, bd_ap, bd_ap]
          cases refM G__law_error g nm xs [] S0 <;> rfl
        simp only [sSeq, sRet, e5]
        cases (refM G__law_error g nm xs [] >>= fun r => g2 gEq (.list r) (.list [])) S0 <;> rfl
      · exact absurd rfl hne
    | _ => exact absurd rfl hne

theorem H__law_all_refused (gf : GF K mg) {k : Nat} {cc Pt : Addr} (hC : CodeAt K mg "_law_all_refused" (top 51) cc) (TB : LamX.TabB base mg cc Pt) (hT : (Pt, (("_law_all_refused" : Str) ++ ".<locals>.") ++ "<lambda>") ∈ T.tabs) (hU : ∀ p ∈ T.tabs, p.1 = Pt → p.2 = (("_law_all_refused" : Str) ++ ".<locals>.") ++ "<lambda>") (_ : 0 ≤ k) : HFnB P w K mg base T k "_law_all_refused" 2 1 G__law_all_refused := by
  obtain ⟨f, fd, F, hm, hb⟩ := gf.f__law_all_refused.ex
  have hcd := hC f fd hm F
  refine hfnB_def (ι := Unit) (td := true) (b := fun _ => b__law_all_refused) F S__law_all_refused hm hb rfl (fun base' _ fl g cdv A outer s H E O0 hbb e lp c => ?_) (fun fl g ds S0 hd hne => ⟨(), ?_⟩)
  · obtain rfl : cdv = .ref cc := e.symm.trans hcd
    have TB := tabB_mono TB hbb
    exact (ds_cons (ds_ret (de_cmp (op_eqD c.hu64) s_eq.op (de_lc [("_law_odd", 3)] c (di_seq (de_var 1)) (fun _ _ _ _ _ => (dg_name 3 c.nd)) (fun _ _ _ _ _ c => (dts_one (dt_cmp (op_neD c.hu64) s_ne.op (de_hofC (k := k + 1) (N := ["_law_call", "_law_odd"]) (ps := []) (fr := ["_law_call", "_law_odd"]) (js := [0, 3]) (fb := (eCallV fl 1 g (eVar 0) (aCons (eVar 1) aNil))) (H__law_error gf (by omega)) c (fun _ h => h) TB rfl hT hU (NdefX.nscope_by (by decide +kernel)) (NdefX.ndef_free (sc := relS blk__law_all_refused (defScope (top 51))) (fr := ["_law_call", "_law_odd"]) (by decide +kernel)) (NdefX.ndef_fr (sc := relS blk__law_all_refused (defScope (top 51))) (fr := ["_law_call", "_law_odd"]) (by decide +kernel)) rfl (fun _ _ _ _ _ us h => by match us, h with | [], _ => rfl) (fun _ _ _ _ _ _ _ c => (de_callLB lp c (de_var 0) (da_cons (de_var 1) da_nil) (by omega))) da_nil) (de_var 2) (nomark _)))) (fun _ _ _ _ _ _ => (de_var 3)) (ok := by exact (show BlkOk N__law_all_refused (defScope (top 51)) _ _ from blkOk_by (by decide +kernel)))) (de_lst da_nil) (nomark _))) ds_nil)
  · exact hev__law_all_refused fl g ds S0 hd hne
def N_is_event : List Str := ["value", "words"]
theorem S_is_event : FnScope N_is_event ["value", "words"] (defScope (top 24)) := C8.fnScope_by (by decide +kernel)
def b_is_event (i : Nat) : BS := (sSeq (sIf (bOr (bNot (bTru (eCall 3 r_is_row (aCons (eVar 0) (aCons (eC (.int 2)) (aCons (eC (.int 2)) aNil)))))) (bOr (bNot (bTru (eIsi "str" (e2 (g2 gIx) (eVar 0) (eC (.int 0)))))) (tB1 (e2 (g2 (gIn true)) (e2 (g2 gIx) (eVar 0) (eC (.int 0))) (eVar 1))))) (sSeq (sRet (eC (.bool false))) sNil) sNil) (sSeq (sRet (eCall 3 r_is_whole (aCons (e2 (g2 gIx) (eVar 0) (eC (.int 1))) (aCons (e1 (g1 gNeg) (eC (.int 9))) (aCons (eC (.int 9)) aNil))))) sNil))
def r_is_event : List D → M D := fun ds => fnOf true N_is_event.length (b_is_event (fu0 ds)) ds
theorem F_is_event (gf : GF K mg) : Fn P w K mg base T 2 "is_event" 2 r_is_event := by
  obtain ⟨f, fd, F, hm, hb⟩ := gf.f_is_event.ex
  refine fn_def (ι := Nat) (td := true) (b := b_is_event) F S_is_event hm hb (fun i cdv A outer s H E _ c => ?_) (fun ds S0 _ _ => ⟨fu0 ds, rfl⟩)
  exact (ds_cons (ds_if (dt_w (dw_or (dt_not (dt_tru (de_call (F_is_row gf) c (da_cons (de_var 0) (da_cons de_int (da_cons de_int da_nil))) (by omega)))) (dw_or (dt_not (dt_tru (de_isi (de_ix ix_seq s_ix.op (de_var 0) de_int) gf.z_isinstance bt_isinstance gf.z_str bt_str))) (dw_or1 (dt_cmp (op_ninZ c.hu) s_in.op (de_ix ix_seq s_ix.op (de_var 0) de_int) (de_var 1) (by with_unfolding_all rfl)))))) (ds_cons (ds_ret de_bl) ds_nil) ds_nil) (ds_cons (ds_ret (de_call (F_is_whole gf) c (da_cons (de_ix ix_seq s_ix.op (de_var 0) de_int) (da_cons (de_un un_neg s_neg.op de_int) (da_cons de_int da_nil))) (by omega))) ds_nil))
def N_fits_word : List Str := ["hall", "value", "many", "event"]
theorem S_fits_word : FnScope N_fits_word ["hall", "value"] (defScope (top 25)) := C8.fnScope_by (by decide +kernel)
def b_fits_word (i : Nat) : BS := (sSeq (sSet 2 (eCB (c1 gLen) (aCons (e2 (g2 gIx) (eVar 0) (eC (.int 1))) aNil))) (sSeq (sIf (bOr (bNot (bTru (eCall 3 r_is_row (aCons (eVar 1) (aCons (eC (.int 1)) (aCons (e2 (g2 gAdd) (eVar 2) (eC (.int 1))) aNil)))))) (bNot (bTru (eCB (c1 gAll) (aCons (eLc [3] (iSeq (eSl (eVar 1) oNone (oSome (e1 (g1 gNeg) (eC (.int 1)))))) (.name 3) bYes (eCall 2 r_is_event (aCons (eVar 3) (aCons (eTup (aCons (eC (.str "through")) aNil)) aNil)))) aNil))))) (sSeq (sRet (eC (.bool false))) sNil) sNil) (sSeq (sRet (eCall 2 r_is_event (aCons (e2 (g2 gIx) (eVar 1) (e1 (g1 gNeg) (eC (.int 1)))) (aCons (eIf (tB1 (e2 (g2 gEq) (eCB (c1 gLen) (aCons (eVar 1) aNil)) (e2 (g2 gAdd) (eVar 2) (eC (.int 1))))) (eTup (aCons (eC (.str "screen")) aNil)) (eTup (aCons (eC (.str "under")) (aCons (eC (.str "over")) aNil)))) aNil)))) sNil)))
def r_fits_word : List D → M D := fun ds => fnOf true N_fits_word.length (b_fits_word (fu0 ds)) ds
theorem F_fits_word (gf : GF K mg) : Fn P w K mg base T 3 "fits_word" 2 r_fits_word := by
  obtain ⟨f, fd, F, hm, hb⟩ := gf.f_fits_word.ex
  refine fn_def (ι := Nat) (td := true) (b := b_fits_word) F S_fits_word hm hb (fun i cdv A outer s H E _ c => ?_) (fun ds S0 _ _ => ⟨fu0 ds, rfl⟩)
  exact (ds_cons (ds_set 2 c.nd (de_callB call_len d_len gf.z_len bt_len (da_cons (de_ix ix_seq s_ix.op (de_var 0) de_int) da_nil))) (ds_cons (ds_if (dt_w (dw_or (dt_not (dt_tru (de_call (F_is_row gf) c (da_cons (de_var 1) (da_cons de_int (da_cons (de_op op_addZ s_add.op (de_var 2) de_int) da_nil))) (by omega)))) (dw_or1 (dt_not (dt_tru (de_callB (cr_all c.calm) d_all gf.z_all bt_all (da_cons (de_lc [("event", 3)] c (di_seq (de_sl (de_var 1) do_none (do_some (de_un un_neg s_neg.op de_int)))) (fun _ _ _ _ _ => (dg_name 3 c.nd)) (fun _ _ _ _ _ _ => dts_nil) (fun _ _ _ _ _ c => (de_call (F_is_event gf) c (da_cons (de_var 3) (da_cons (de_tup (da_cons de_str da_nil)) da_nil)) (by omega))) (ok := by exact (show BlkOk N_fits_word (defScope (top 25)) _ _ from blkOk_by (by decide +kernel)))) da_nil))))))) (ds_cons (ds_ret de_bl) ds_nil) ds_nil) (ds_cons (ds_ret (de_call (F_is_event gf) c (da_cons (de_ix ix_seq s_ix.op (de_var 1) (de_un un_neg s_neg.op de_int)) (da_cons (de_if (dt_cmp (op_eqD c.hu64) s_eq.op (de_callB call_len d_len gf.z_len bt_len (da_cons (de_var 1) da_nil)) (de_op op_addZ s_add.op (de_var 2) de_int) (nomark _)) (de_tup (da_cons de_str da_nil)) (de_tup (da_cons de_str (da_cons de_str da_nil)))) da_nil)) (by omega))) ds_nil)))
def N_does : List Str := ["hall", "ray", "word"]
theorem S_does : FnScope N_does ["hall", "ray", "word"] (defScope (top 35)) := C8.fnScope_by (by decide +kernel)
def b_does (i : Nat) : BS := (sSeq (sExpr (eCall 1 r_need_hall (aCons (eVar 0) aNil))) (sSeq (sExpr (eCall 2 r_need_ray (aCons (eVar 0) (aCons (eVar 1) aNil)))) (sSeq (sIf (bNot (bTru (eCall 2 r_fits_word (aCons (eVar 0) (aCons (eVar 2) aNil))))) (sSeq (sRaise "InvalidWord") sNil) sNil) (sSeq (sRet (e2 (g2 gEq) (e2 (g2 gIx) (eCall 2 r_run (aCons (eVar 0) (aCons (eVar 1) aNil))) (eC (.int 0))) (eVar 2))) sNil))))
def r_does : List D → M D := fun ds => fnOf true N_does.length (b_does (fu0 ds)) ds
theorem F_does (gf : GF K mg) : Fn P w K mg base T 5 "does" 3 r_does := by
  obtain ⟨f, fd, F, hm, hb⟩ := gf.f_does.ex
  refine fn_def (ι := Nat) (td := true) (b := b_does) F S_does hm hb (fun i cdv A outer s H E _ c => ?_) (fun ds S0 _ _ => ⟨fu0 ds, rfl⟩)
  exact (ds_cons (ds_expr (de_call (F_need_hall gf) c (da_cons (de_var 0) da_nil) (by omega))) (ds_cons (ds_expr (de_call (F_need_ray gf) c (da_cons (de_var 0) (da_cons (de_var 1) da_nil)) (by omega))) (ds_cons (ds_if (dt_not (dt_tru (de_call (F_fits_word gf) c (da_cons (de_var 0) (da_cons (de_var 2) da_nil)) (by omega)))) (ds_cons (ds_raise c gf.x_InvalidWord) ds_nil) ds_nil) (ds_cons (ds_ret (de_cmp (op_eqD c.hu64) s_eq.op (de_ix ix_seq s_ix.op (de_call (F_run gf) c (da_cons (de_var 0) (da_cons (de_var 1) da_nil)) (by omega)) de_int) (de_var 2) (nomark _))) ds_nil))))
def N__law_ray : List Str := ["_law_bag_here", "_law_hall_so", "_law_below", "_law_length", "_law_first", "_law_second"]
theorem S__law_ray : FnScope N__law_ray ["_law_bag_here", "_law_hall_so"] (defScope (top 45)) := C8.fnScope_by (by decide +kernel)
def b__law_ray (i : Nat) : BS := (sSeq (sPar 2 3 (e2 (g2 gAdd) (eC (.int 1)) (eCall 2 r__law_take (aCons (eVar 0) (aCons (eC (.int 4)) aNil)))) (e2 (g2 gAdd) (eC (.int 1)) (eCall 2 r__law_take (aCons (eVar 0) (aCons (eC (.int 6)) aNil))))) (sSeq (sPar 4 5 (eCall 2 r__law_take (aCons (eVar 0) (aCons (e2 (g2 gAdd) (e2 (g2 gMul) (e2 (g2 gIx) (eVar 1) (eC (.int 0))) (eVar 2)) (eC (.int 1))) aNil))) (e2 (g2 gSub) (eCall 2 r__law_take (aCons (eVar 0) (aCons (e2 (g2 gAdd) (e2 (g2 gMul) (eC (.int 2)) (eVar 3)) (eC (.int 1))) aNil))) (eVar 3))) (sSeq (sRet (eTup (aCons (eCall 2 r__law_lowest (aCons (eVar 4) (aCons (eVar 2) aNil))) (aCons (eCall 2 r__law_lowest (aCons (eVar 5) (aCons (eVar 3) aNil))) aNil)))) sNil)))
def r__law_ray : List D → M D := fun ds => fnOf true N__law_ray.length (b__law_ray (fu0 ds)) ds
theorem F__law_ray (gf : GF K mg) : Fn P w K mg base T 2 "_law_ray" 2 r__law_ray := by
  obtain ⟨f, fd, F, hm, hb⟩ := gf.f__law_ray.ex
  refine fn_def (ι := Nat) (td := true) (b := b__law_ray) F S__law_ray hm hb (fun i cdv A outer s H E _ c => ?_) (fun ds S0 _ _ => ⟨fu0 ds, rfl⟩)
  exact (ds_cons (ds_par 2 3 c.calm c.nd (de_op op_addZ s_add.op de_int (de_call (F__law_take gf) c (da_cons (de_var 0) (da_cons de_int da_nil)) (by omega))) (de_op op_addZ s_add.op de_int (de_call (F__law_take gf) c (da_cons (de_var 0) (da_cons de_int da_nil)) (by omega)))) (ds_cons (ds_par 4 5 c.calm c.nd (de_call (F__law_take gf) c (da_cons (de_var 0) (da_cons (de_op op_addZ s_add.op (de_op op_mulW s_mul.op (de_ix ix_seq s_ix.op (de_var 1) de_int) (de_var 2)) de_int) da_nil)) (by omega)) (de_op op_subZ s_sub.op (de_call (F__law_take gf) c (da_cons (de_var 0) (da_cons (de_op op_addZ s_add.op (de_op op_mulW s_mul.op de_int (de_var 3)) de_int) da_nil)) (by omega)) (de_var 3))) (ds_cons (ds_ret (de_tup (da_cons (de_call (F__law_lowest gf) c (da_cons (de_var 4) (da_cons (de_var 2) da_nil)) (by omega)) (da_cons (de_call (F__law_lowest gf) c (da_cons (de_var 5) (da_cons (de_var 3) da_nil)) (by omega)) da_nil)))) ds_nil)))
def N__law_edge_ray : List Str := ["_law_bag_here", "_law_hall_so", "_law_place", "_law_low", "_law_top", "_law_goal", "_law_length", "_law_rise", "_law_below"]
theorem S__law_edge_ray : FnScope N__law_edge_ray ["_law_bag_here", "_law_hall_so"] (defScope (top 52)) := C8.fnScope_by (by decide +kernel)
def b__law_edge_ray (i : Nat) : BS := (sSeq (sAsg (.tup [(.name 2), (.name 3), (.name 4)]) (eCall 2 r__law_choice (aCons (eVar 0) (aCons (e2 (g2 gAdd) (eCB (c1 gList) (aCons (e2 (g2 gIx) (eVar 1) (eC (.int 1))) aNil)) (eLst (aCons (eTup (aCons (e2 (g2 gIx) (eVar 1) (eC (.int 2))) (aCons (eC (.int 0)) (aCons (e2 (g2 gIx) (eVar 1) (eC (.int 0))) aNil)))) aNil))) aNil)))) (sSeq (sSet 5 (eCall 2 r__law_choice (aCons (eVar 0) (aCons (eLst (aCons (eVar 3) (aCons (eVar 4) (aCons (eC (.int 0)) (aCons (e2 (g2 gIx) (eVar 1) (eC (.int 0))) (aCons (e1 (g1 gNeg) (eVar 3)) (aCons (e2 (g2 gSub) (e2 (g2 gMul) (eC (.int 2)) (e2 (g2 gIx) (eVar 1) (eC (.int 0)))) (eVar 4)) aNil))))))) aNil)))) (sSeq (sSet 6 (e2 (g2 gAdd) (eC (.int 1)) (eCall 2 r__law_take (aCons (eVar 0) (aCons (eC (.int 4)) aNil))))) (sSeq (sSet 7 (e2 (g2 gSub) (eCall 2 r__law_take (aCons (eVar 0) (aCons (e2 (g2 gAdd) (e2 (g2 gMul) (eC (.int 2)) (eVar 6)) (eC (.int 1))) aNil))) (eVar 6))) (sSeq (sAsg (.tup [(.name 4), (.name 8)]) (eCall 2 r__law_lowest (aCons (e2 (g2 gSub) (e2 (g2 gMul) (eVar 5) (eVar 6)) (e2 (g2 gMul) (eVar 7) (eVar 2))) (aCons (eVar 6) aNil)))) (sSeq (sIf (tB1 (eChain (g2 gLe) (g2 gLe) (eC (.int 0)) (eVar 4) (e2 (g2 gMul) (e2 (g2 gIx) (eVar 1) (eC (.int 0))) (eVar 8)))) (sSeq (sRet (eTup (aCons (eTup (aCons (eVar 4) (aCons (eVar 8) aNil))) (aCons (eCall 2 r__law_lowest (aCons (eVar 7) (aCons (eVar 6) aNil))) aNil)))) sNil) sNil) (sSeq (sRet (eCall 2 r__law_ray (aCons (eVar 0) (aCons (eVar 1) aNil)))) sNil)))))))
def r__law_edge_ray : List D → M D := fun ds => fnOf true N__law_edge_ray.length (b__law_edge_ray (fu0 ds)) ds
theorem F__law_edge_ray (gf : GF K mg) : Fn P w K mg base T 3 "_law_edge_ray" 2 r__law_edge_ray := by
  obtain ⟨f, fd, F, hm, hb⟩ := gf.f__law_edge_ray.ex
  refine fn_def (ι := Nat) (td := true) (b := b__law_edge_ray) F S__law_edge_ray hm hb (fun i cdv A outer s H E _ c => ?_) (fun ds S0 _ _ => ⟨fu0 ds, rfl⟩)
  exact (ds_cons (ds_asg (de_call (F__law_choice gf) c (da_cons (de_var 0) (da_cons (de_op op_addZ s_add.op (de_callTy call_list_of d_list gf.z_list bt_list (da_cons (de_ix ix_seq s_ix.op (de_var 1) de_int) da_nil)) (de_lst (da_cons (de_tup (da_cons (de_ix ix_seq s_ix.op (de_var 1) de_int) (da_cons de_int (da_cons (de_ix ix_seq s_ix.op (de_var 1) de_int) da_nil)))) da_nil))) da_nil)) (by omega)) (dg_tup c.calm (dgs_cons (dg_name 2 c.nd) (dgs_cons (dg_name 3 c.nd) (dgs_cons (dg_name 4 c.nd) dgs_nil))))) (ds_cons (ds_set 5 c.nd (de_call (F__law_choice gf) c (da_cons (de_var 0) (da_cons (de_lst (da_cons (de_var 3) (da_cons (de_var 4) (da_cons de_int (da_cons (de_ix ix_seq s_ix.op (de_var 1) de_int) (da_cons (de_un un_neg s_neg.op (de_var 3)) (da_cons (de_op op_subZ s_sub.op (de_op op_mulW s_mul.op de_int (de_ix ix_seq s_ix.op (de_var 1) de_int)) (de_var 4)) da_nil))))))) da_nil)) (by omega))) (ds_cons (ds_set 6 c.nd (de_op op_addZ s_add.op de_int (de_call (F__law_take gf) c (da_cons (de_var 0) (da_cons de_int da_nil)) (by omega)))) (ds_cons (ds_set 7 c.nd (de_op op_subZ s_sub.op (de_call (F__law_take gf) c (da_cons (de_var 0) (da_cons (de_op op_addZ s_add.op (de_op op_mulW s_mul.op de_int (de_var 6)) de_int) da_nil)) (by omega)) (de_var 6))) (ds_cons (ds_asg (de_call (F__law_lowest gf) c (da_cons (de_op op_subZ s_sub.op (de_op op_mulW s_mul.op (de_var 5) (de_var 6)) (de_op op_mulW s_mul.op (de_var 7) (de_var 2))) (da_cons (de_var 6) da_nil)) (by omega)) (dg_tup c.calm (dgs_cons (dg_name 4 c.nd) (dgs_cons (dg_name 8 c.nd) dgs_nil)))) (ds_cons (ds_if (dt_chain op_le op_le s_cmp.op s_cmp.op de_int (de_var 4) (de_op op_mulW s_mul.op (de_ix ix_seq s_ix.op (de_var 1) de_int) (de_var 8))) (ds_cons (ds_ret (de_tup (da_cons (de_tup (da_cons (de_var 4) (da_cons (de_var 8) da_nil))) (da_cons (de_call (F__law_lowest gf) c (da_cons (de_var 7) (da_cons (de_var 6) da_nil)) (by omega)) da_nil)))) ds_nil) ds_nil) (ds_cons (ds_ret (de_call (F__law_ray gf) c (da_cons (de_var 0) (da_cons (de_var 1) da_nil)) (by omega))) ds_nil)))))))
def N__law_truly : List Str := ["_law_found", "_law_due"]
theorem S__law_truly : FnScope N__law_truly ["_law_found", "_law_due"] (defScope (top 50)) := C8.fnScope_by (by decide +kernel)
def b__law_truly (i : Nat) : BS := (sSeq (sRet (eAnd (eIsi "bool" (eVar 0)) (e2 (g2 gEq) (eVar 0) (eVar 1)))) sNil)
def r__law_truly : List D → M D := fun ds => fnOf true N__law_truly.length (b__law_truly (fu0 ds)) ds
theorem F__law_truly (gf : GF K mg) : Fn P w K mg base T 1 "_law_truly" 2 r__law_truly := by
  obtain ⟨f, fd, F, hm, hb⟩ := gf.f__law_truly.ex
  refine fn_def (ι := Nat) (td := true) (b := b__law_truly) F S__law_truly hm hb (fun i cdv A outer s H E _ c => ?_) (fun ds S0 _ _ => ⟨fu0 ds, rfl⟩)
  exact (ds_cons (ds_ret (de_and (de_isi (de_var 0) gf.z_isinstance bt_isinstance gf.z_bool bt_bool) (de_one (de_cmp (op_eqD c.hu64) s_eq.op (de_var 0) (de_var 1) (nomark _))))) ds_nil)
def t_word_of_hit : FTab := [("word_of", 2, r_word_of), ("hit", 2, r_hit)]
theorem tab_word_of_hit (gf : GF K mg) : ∀ x n g, t_word_of_hit.lookup x = some (n, g) → Fn P w K mg base T 5 x n g := by
  intro x n g h
  simp only [t_word_of_hit, List.lookup_cons, List.lookup_nil] at h
  split at h
  · rename_i e
    cases h
    obtain rfl := eq_of_beq e
    exact (F_word_of gf).mono (by omega)
  split at h
  · rename_i e
    cases h
    obtain rfl := eq_of_beq e
    exact (F_hit gf).mono (by omega)
  cases h
def N_law : List Str := ["_law_script", "_law_k", "_law_bag_here", "_law_hall_so", "_law_turn", "_law_ray_here", "_law_events_so", "_law_place", "_law_height_so", "_law_other", "_law_odds", "_law_call", "_law_a", "_law_v", "_law_some", "_law_due"]
theorem S_law : FnScope N_law ["_law_script"] (defScope (top 53)) := C8.fnScope_by (by decide +kernel)
def b_law (i : Nat) : BS := (sSeq (sFor (iRg (eC (.int 8))) (.name 1) (sSeq (sSet 2 (eCall 2 r__law_bag (aCons (eVar 0) (aCons (eVar 1) aNil)))) (sSeq (sSet 3 (eCall 2 r__law_hall (aCons (eVar 2) (aCons (eC (.int 3)) aNil)))) (sSeq (sFor (iRg (eC (.int 12))) (.name 4) (sSeq (sSet 5 (eIf (tB1 (e2 (g2 gLt) (eVar 4) (eC (.int 5)))) (eCall 2 r__law_ray (aCons (eVar 2) (aCons (eVar 3) aNil))) (eCall 2 r__law_edge_ray (aCons (eVar 2) (aCons (eVar 3) aNil))))) (sSeq (sAsg (.tup [(.name 6), (.name 7), (.name 8)]) (eCall 2 r__law_run (aCons (eVar 3) (aCons (eVar 5) aNil)))) (sSeq (sIf (bOr (tB1 (e2 (g2 gNe) (eCall 2 r_word_of (aCons (eVar 3) (aCons (eVar 5) aNil))) (eVar 6))) (tB1 (e2 (g2 gNe) (eCall 2 r_hit (aCons (eVar 3) (aCons (eVar 5) aNil))) (eTup (aCons (eVar 7) (aCons (eVar 8) aNil)))))) (sSeq (sRet (eC (.bool false))) sNil) sNil) (sSeq (sIf (bNot (bTru (eCall 2 r__law_truly (aCons (eCall 3 r_does (aCons (eVar 3) (aCons (eVar 5) (aCons (eVar 6) aNil)))) (aCons (eC (.bool true)) aNil))))) (sSeq (sRet (eC (.bool false))) sNil) sNil) (sSeq (sSet 9 (e2 (g2 gAdd) (eSl (eVar 6) oNone (oSome (e1 (g1 gNeg) (eC (.int 1))))) (eTup (aCons (eTup (aCons (e2 (g2 gIx) (e2 (g2 gIx) (eVar 6) (e1 (g1 gNeg) (eC (.int 1)))) (eC (.int 0))) (aCons (e2 (g2 gAdd) (e2 (g2 gIx) (e2 (g2 gIx) (eVar 6) (e1 (g1 gNeg) (eC (.int 1)))) (eC (.int 1))) (eC (.int 1))) aNil))) aNil)))) (sSeq (sIf (bNot (bTru (eCall 2 r__law_truly (aCons (eCall 3 r_does (aCons (eVar 3) (aCons (eVar 5) (aCons (eVar 9) aNil)))) (aCons (eC (.bool false)) aNil))))) (sSeq (sRet (eC (.bool false))) sNil) sNil) sNil))))))) (sSeq (sSet 10 (eLst (aCons (eC .none) (aCons (eSl (eVar 5) oNone (oSome (eC (.int 1)))) (aCons (eCB (c1 gList) (aCons (eVar 5) aNil)) (aCons (eTup (aCons (eTup (aCons (e2 (g2 gAdd) (e2 (g2 gIx) (eVar 3) (eC (.int 0))) (eC (.int 1))) (aCons (eC (.int 1)) aNil))) (aCons (eTup (aCons (eC (.int 0)) (aCons (eC (.int 1)) aNil))) aNil))) (aCons (eTup (aCons (eTup (aCons (eC (.int 0)) (aCons (eC (.int 1)) aNil))) (aCons (eTup (aCons (eC (.int 3)) (aCons (eC (.int 2)) aNil))) aNil))) (aCons (eTup (aCons (eTup (aCons (eC (.int 0)) (aCons (eC (.int 2)) aNil))) (aCons (eTup (aCons (eC (.int 0)) (aCons (eC (.int 1)) aNil))) aNil))) aNil)))))))) (sSeq (sFor (iSeq (eLst (aCons (eC (.fn "word_of")) (aCons (eC (.fn "hit")) aNil)))) (.name 11) (sSeq (sIf (bNot (bTru (eHof 2 3 [11, 3] (eCallF t_word_of_hit (eVar 1) (aCons (eVar 2) (aCons (eVar 0) aNil))) (G__law_all_refused) (aCons (eVar 10) (aCons (eC (.str "ray")) aNil))))) (sSeq (sRet (eC (.bool false))) sNil) sNil) (sSeq (sIf (tB1 (e2 (g2 gNe) (eHof 0 2 [11, 3] (eCallF t_word_of_hit (eVar 0) (aCons (eCB (c1 gList) (aCons (eVar 1) aNil)) (aCons (eC .none) aNil))) (G__law_error) aNil) (eC (.str "hall")))) (sSeq (sRet (eC (.bool false))) sNil) sNil) sNil))) (sSeq (sIf (bNot (bTru (eHof 2 2 [3] (eCall 3 r_does (aCons (eVar 1) (aCons (eVar 0) (aCons (eC .none) aNil)))) (G__law_all_refused) (aCons (eVar 10) (aCons (eC (.str "ray")) aNil))))) (sSeq (sRet (eC (.bool false))) sNil) sNil) (sSeq (sSet 10 (eLst (aCons (eC .none) (aCons (eTup aNil) (aCons (e2 (g2 gAdd) (eVar 6) (eVar 6)) (aCons (eCB (c1 gList) (aCons (eVar 6) aNil)) (aCons (eTup (aCons (eTup (aCons (eC (.str "screen")) (aCons (eC (.int 10)) aNil))) aNil)) aNil))))))) (sSeq (sIf (bNot (bTru (eHof 2 3 [3, 5] (eCall 3 r_does (aCons (eVar 1) (aCons (eVar 2) (aCons (eVar 0) aNil)))) (G__law_all_refused) (aCons (eVar 10) (aCons (eC (.str "word")) aNil))))) (sSeq (sRet (eC (.bool false))) sNil) sNil) sNil))))))))) (sSeq (sAsg (.tup [(.name 12), (.name 13)]) (eTup (aCons (eTup (aCons (eC (.int 10)) (aCons (eTup (aCons (eTup (aCons (eC (.int 4)) (aCons (eC (.int 3)) (aCons (eC (.int 6)) aNil)))) aNil)) (aCons (eC (.int 10)) aNil)))) (aCons (eTup (aCons (eTup (aCons (eC (.str "through")) (aCons (eC (.int 0)) aNil))) (aCons (eTup (aCons (eC (.str "screen")) (aCons (eC (.int 1)) aNil))) aNil))) aNil)))) (sSeq (sSet 14 (eLst (aCons (eCall 2 r_word_of (aCons (eVar 12) (aCons (eTup (aCons (eTup (aCons (eC (.int 5)) (aCons (eC (.int 1)) aNil))) (aCons (eTup (aCons (eC (.int 0)) (aCons (eC (.int 1)) aNil))) aNil))) aNil))) (aCons (eCall 2 r_word_of (aCons (eVar 12) (aCons (eTup (aCons (eTup (aCons (eC (.int 0)) (aCons (eC (.int 1)) aNil))) (aCons (eTup (aCons (e1 (g1 gNeg) (eC (.int 1))) (aCons (eC (.int 1)) aNil))) aNil))) aNil))) (aCons (eCall 2 r_word_of (aCons (eVar 12) (aCons (eTup (aCons (eTup (aCons (eC (.int 10)) (aCons (eC (.int 1)) aNil))) (aCons (eTup (aCons (eC (.int 1)) (aCons (eC (.int 1)) aNil))) aNil))) aNil))) aNil))))) (sSeq (sSet 15 (eLst (aCons (eTup (aCons (eTup (aCons (eC (.str "through")) (aCons (eC (.int 0)) aNil))) (aCons (eTup (aCons (eC (.str "screen")) (aCons (eC (.int 0)) aNil))) aNil))) (aCons (eTup (aCons (eTup (aCons (eC (.str "through")) (aCons (e1 (g1 gNeg) (eC (.int 1))) aNil))) (aCons (eTup (aCons (eC (.str "screen")) (aCons (e1 (g1 gNeg) (eC (.int 1))) aNil))) aNil))) (aCons (eTup (aCons (eTup (aCons (eC (.str "through")) (aCons (eC (.int 1)) aNil))) (aCons (eTup (aCons (eC (.str "screen")) (aCons (eC (.int 2)) aNil))) aNil))) aNil))))) (sSeq (sIf (bOr (tB1 (e2 (g2 gNe) (eVar 14) (eVar 15))) (bOr (tB1 (e2 (g2 gNe) (eCall 2 r_hit (aCons (eVar 12) (aCons (eTup (aCons (eTup (aCons (eC (.int 0)) (aCons (eC (.int 1)) aNil))) (aCons (eTup (aCons (eC (.int 1)) (aCons (eC (.int 2)) aNil))) aNil))) aNil))) (eTup (aCons (eC (.int 4)) (aCons (eTup (aCons (eC (.int 2)) (aCons (eC (.int 1)) aNil))) aNil))))) (tB1 (e2 (g2 (gIs true)) (eCall 3 r_does (aCons (eVar 12) (aCons (eTup (aCons (eTup (aCons (eC (.int 2)) (aCons (eC (.int 1)) aNil))) (aCons (eTup (aCons (eC (.int 1)) (aCons (eC (.int 1)) aNil))) aNil))) (aCons (eVar 13) aNil)))) (eC (.bool true)))))) (sSeq (sRet (eC (.bool false))) sNil) sNil) (sSeq (sRet (eAnd (e2 (g2 gEq) (eCall 2 r_hit (aCons (eVar 12) (aCons (eTup (aCons (eTup (aCons (eC (.int 2)) (aCons (eC (.int 1)) aNil))) (aCons (eTup (aCons (eC (.int 1)) (aCons (eC (.int 1)) aNil))) aNil))) aNil))) (eTup (aCons (eC (.int 10)) (aCons (eTup (aCons (eC (.int 8)) (aCons (eC (.int 1)) aNil))) aNil)))) (e2 (g2 gEq) (eCall 2 r_hit (aCons (eVar 12) (aCons (eTup (aCons (eTup (aCons (eC (.int 10)) (aCons (eC (.int 1)) aNil))) (aCons (eTup (aCons (eC (.int 1)) (aCons (eC (.int 1)) aNil))) aNil))) aNil))) (eTup (aCons (eC (.int 10)) (aCons (eTup (aCons (eC (.int 0)) (aCons (eC (.int 1)) aNil))) aNil)))))) sNil))))))
def r_law : List D → M D := fun ds => fnOf true N_law.length (b_law (fu0 ds)) ds
theorem F_law (gf : GF K mg) {cc Pt : Addr} {f : Addr} {fd : FuncData} (F : L2.Fun K "law" "law" (top 53) f fd) (hcd : fd.code = .ref cc) (TB : LamX.TabB base mg cc Pt) (hT : (Pt, (("law" : Str) ++ ".<locals>.") ++ "<lambda>") ∈ T.tabs) (hU : ∀ p ∈ T.tabs, p.1 = Pt → p.2 = (("law" : Str) ++ ".<locals>.") ++ "<lambda>") {cc__law_all_refused Pt__law_all_refused : Addr} (hC__law_all_refused : CodeAt K mg "_law_all_refused" (top 51) cc__law_all_refused) (TB__law_all_refused : LamX.TabB base mg cc__law_all_refused Pt__law_all_refused) (hT__law_all_refused : (Pt__law_all_refused, (("_law_all_refused" : Str) ++ ".<locals>.") ++ "<lambda>") ∈ T.tabs) (hU__law_all_refused : ∀ p ∈ T.tabs, p.1 = Pt__law_all_refused → p.2 = (("_law_all_refused" : Str) ++ ".<locals>.") ++ "<lambda>") : FnOk P w K mg base (L2N.CX P w) 10 f fd ["_law_script"] (spD K mg T 1 r_law) := by
  refine fn_okd (ι := Nat) (td := true) (b := b_law) F S_law (fun i cdv A outer s H E e c => ?_) (fun ds S0 _ _ => ⟨fu0 ds, rfl⟩)
  obtain rfl : cdv = .ref cc := e.symm.trans hcd
  exact (ds_cons (ds_for c (di_range de_int gf.z_range) (dg_name 1 c.nd) (ds_cons (ds_set 2 c.nd (de_call (F__law_bag gf) c (da_cons (de_var 0) (da_cons (de_var 1) da_nil)) (by omega))) (ds_cons (ds_set 3 c.nd (de_call (F__law_hall gf) c (da_cons (de_var 2) (da_cons de_int da_nil)) (by omega))) (ds_cons (ds_for c (di_range de_int gf.z_range) (dg_name 4 c.nd) (ds_cons (ds_set 5 c.nd (de_if (dt_cmp op_lt s_cmp.op (de_var 4) de_int (nomark _)) (de_call (F__law_ray gf) c (da_cons (de_var 2) (da_cons (de_var 3) da_nil)) (by omega)) (de_call (F__law_edge_ray gf) c (da_cons (de_var 2) (da_cons (de_var 3) da_nil)) (by omega)))) (ds_cons (ds_asg (de_call (F__law_run gf) c (da_cons (de_var 3) (da_cons (de_var 5) da_nil)) (by omega)) (dg_tup c.calm (dgs_cons (dg_name 6 c.nd) (dgs_cons (dg_name 7 c.nd) (dgs_cons (dg_name 8 c.nd) dgs_nil))))) (ds_cons (ds_if (dt_w (dw_or (dt_cmp (op_neD c.hu64) s_ne.op (de_call (F_word_of gf) c (da_cons (de_var 3) (da_cons (de_var 5) da_nil)) (by omega)) (de_var 6) (nomark _)) (dw_or1 (dt_cmp (op_neD c.hu64) s_ne.op (de_call (F_hit gf) c (da_cons (de_var 3) (da_cons (de_var 5) da_nil)) (by omega)) (de_tup (da_cons (de_var 7) (da_cons (de_var 8) da_nil))) (nomark _))))) (ds_cons (ds_ret de_bl) ds_nil) ds_nil) (ds_cons (ds_if (dt_not (dt_tru (de_call (F__law_truly gf) c (da_cons (de_call (F_does gf) c (da_cons (de_var 3) (da_cons (de_var 5) (da_cons (de_var 6) da_nil))) (by omega)) (da_cons de_bl da_nil)) (by omega)))) (ds_cons (ds_ret de_bl) ds_nil) ds_nil) (ds_cons (ds_set 9 c.nd (de_op op_addZ s_add.op (de_sl (de_var 6) do_none (do_some (de_un un_neg s_neg.op de_int))) (de_tup (da_cons (de_tup (da_cons (de_ix ix_seq s_ix.op (de_ix ix_seq s_ix.op (de_var 6) (de_un un_neg s_neg.op de_int)) de_int) (da_cons (de_op op_addZ s_add.op (de_ix ix_seq s_ix.op (de_ix ix_seq s_ix.op (de_var 6) (de_un un_neg s_neg.op de_int)) de_int) de_int) da_nil))) da_nil)))) (ds_cons (ds_if (dt_not (dt_tru (de_call (F__law_truly gf) c (da_cons (de_call (F_does gf) c (da_cons (de_var 3) (da_cons (de_var 5) (da_cons (de_var 9) da_nil))) (by omega)) (da_cons de_bl da_nil)) (by omega)))) (ds_cons (ds_ret de_bl) ds_nil) ds_nil) ds_nil))))))) (ds_cons (ds_set 10 c.nd (de_lst (da_cons de_non (da_cons (de_sl (de_var 5) do_none (do_some de_int)) (da_cons (de_callTy call_list_of d_list gf.z_list bt_list (da_cons (de_var 5) da_nil)) (da_cons (de_tup (da_cons (de_tup (da_cons (de_op op_addZ s_add.op (de_ix ix_seq s_ix.op (de_var 3) de_int) de_int) (da_cons de_int da_nil))) (da_cons (de_tup (da_cons de_int (da_cons de_int da_nil))) da_nil))) (da_cons (de_tup (da_cons (de_tup (da_cons de_int (da_cons de_int da_nil))) (da_cons (de_tup (da_cons de_int (da_cons de_int da_nil))) da_nil))) (da_cons (de_tup (da_cons (de_tup (da_cons de_int (da_cons de_int da_nil))) (da_cons (de_tup (da_cons de_int (da_cons de_int da_nil))) da_nil))) da_nil)))))))) (ds_cons (ds_for c (di_seq (de_lst (da_cons (de_fnF (F_word_of gf)) (da_cons (de_fnF (F_hit gf)) da_nil)))) (dg_name 11 c.nd) (ds_cons (ds_if (dt_not (dt_tru (de_hofB (k := 5) (N := ["_law_odd", "_law_call", "_law_hall_so"]) (ps := ["_law_odd"]) (fr := ["_law_call", "_law_hall_so"]) (js := [11, 3]) (fb := (eCallF t_word_of_hit (eVar 1) (aCons (eVar 2) (aCons (eVar 0) aNil)))) (H__law_all_refused gf hC__law_all_refused TB__law_all_refused hT__law_all_refused hU__law_all_refused (by omega)) c (frs_def rfl) TB rfl hT hU (NdefX.nscope_by (by decide +kernel)) (NdefX.ndef_free (sc := defScope (top 53)) (fr := ["_law_call", "_law_hall_so"]) (by decide +kernel)) (fun _ _ _ => rfl) (NdefX.ndef_fr (sc := defScope (top 53)) (fr := ["_law_call", "_law_hall_so"]) (by decide +kernel)) rfl (fun _ _ _ _ _ us h => by match us, h with | [_], _ => rfl) (fun _ _ _ _ _ _ _ _ c => (de_callF (t := t_word_of_hit) (tab_word_of_hit gf) c (de_var 1) (da_cons (de_var 2) (da_cons (de_var 0) da_nil)) (by omega))) (da_cons (de_var 10) (da_cons de_str da_nil))))) (ds_cons (ds_ret de_bl) ds_nil) ds_nil) (ds_cons (ds_if (dt_cmp (op_neD c.hu64) s_ne.op (de_hof (k := 7) (N := ["_law_call", "_law_hall_so"]) (ps := []) (fr := ["_law_call", "_law_hall_so"]) (js := [11, 3]) (fb := (eCallF t_word_of_hit (eVar 0) (aCons (eCB (c1 gList) (aCons (eVar 1) aNil)) (aCons (eC .none) aNil)))) (H__law_error gf (by omega)) c rfl TB rfl hT hU (NdefX.nscope_by (by decide +kernel)) (NdefX.ndef_free (sc := defScope (top 53)) (fr := ["_law_call", "_law_hall_so"]) (by decide +kernel)) (NdefX.ndef_fr (sc := defScope (top 53)) (fr := ["_law_call", "_law_hall_so"]) (by decide +kernel)) rfl (fun _ _ _ _ _ us h => by match us, h with | [], _ => rfl) (fun _ _ _ _ _ _ _ c => (de_callF (t := t_word_of_hit) (tab_word_of_hit gf) c (de_var 0) (da_cons (de_callTy call_list_of d_list gf.z_list bt_list (da_cons (de_var 1) da_nil)) (da_cons de_non da_nil)) (by omega))) da_nil) de_str (nomark _)) (ds_cons (ds_ret de_bl) ds_nil) ds_nil) ds_nil))) (ds_cons (ds_if (dt_not (dt_tru (de_hofB (k := 5) (N := ["_law_odd", "_law_hall_so"]) (ps := ["_law_odd"]) (fr := ["_law_hall_so"]) (js := [3]) (fb := (eCall 3 r_does (aCons (eVar 1) (aCons (eVar 0) (aCons (eC .none) aNil))))) (H__law_all_refused gf hC__law_all_refused TB__law_all_refused hT__law_all_refused hU__law_all_refused (by omega)) c (frs_def rfl) TB rfl hT hU (NdefX.nscope_by (by decide +kernel)) (NdefX.ndef_free (sc := defScope (top 53)) (fr := ["_law_hall_so"]) (by decide +kernel)) (fun _ _ _ => rfl) (NdefX.ndef_fr (sc := defScope (top 53)) (fr := ["_law_hall_so"]) (by decide +kernel)) rfl (fun _ _ _ _ _ us h => by match us, h with | [_], _ => rfl) (fun _ _ _ _ _ _ _ _ c => (de_call (F_does gf) c (da_cons (de_var 1) (da_cons (de_var 0) (da_cons de_non da_nil))) (by omega))) (da_cons (de_var 10) (da_cons de_str da_nil))))) (ds_cons (ds_ret de_bl) ds_nil) ds_nil) (ds_cons (ds_set 10 c.nd (de_lst (da_cons de_non (da_cons (de_tup da_nil) (da_cons (de_op op_addZ s_add.op (de_var 6) (de_var 6)) (da_cons (de_callTy call_list_of d_list gf.z_list bt_list (da_cons (de_var 6) da_nil)) (da_cons (de_tup (da_cons (de_tup (da_cons de_str (da_cons de_int da_nil))) da_nil)) da_nil))))))) (ds_cons (ds_if (dt_not (dt_tru (de_hofB (k := 5) (N := ["_law_odd", "_law_hall_so", "_law_ray_here"]) (ps := ["_law_odd"]) (fr := ["_law_hall_so", "_law_ray_here"]) (js := [3, 5]) (fb := (eCall 3 r_does (aCons (eVar 1) (aCons (eVar 2) (aCons (eVar 0) aNil))))) (H__law_all_refused gf hC__law_all_refused TB__law_all_refused hT__law_all_refused hU__law_all_refused (by omega)) c (frs_def rfl) TB rfl hT hU (NdefX.nscope_by (by decide +kernel)) (NdefX.ndef_free (sc := defScope (top 53)) (fr := ["_law_hall_so", "_law_ray_here"]) (by decide +kernel)) (fun _ _ _ => rfl) (NdefX.ndef_fr (sc := defScope (top 53)) (fr := ["_law_hall_so", "_law_ray_here"]) (by decide +kernel)) rfl (fun _ _ _ _ _ us h => by match us, h with | [_], _ => rfl) (fun _ _ _ _ _ _ _ _ c => (de_call (F_does gf) c (da_cons (de_var 1) (da_cons (de_var 2) (da_cons (de_var 0) da_nil))) (by omega))) (da_cons (de_var 10) (da_cons de_str da_nil))))) (ds_cons (ds_ret de_bl) ds_nil) ds_nil) ds_nil))))))))) (ds_cons (ds_asg (de_tup (da_cons (de_tup (da_cons de_int (da_cons (de_tup (da_cons (de_tup (da_cons de_int (da_cons de_int (da_cons de_int da_nil)))) da_nil)) (da_cons de_int da_nil)))) (da_cons (de_tup (da_cons (de_tup (da_cons de_str (da_cons de_int da_nil))) (da_cons (de_tup (da_cons de_str (da_cons de_int da_nil))) da_nil))) da_nil))) (dg_tup c.calm (dgs_cons (dg_name 12 c.nd) (dgs_cons (dg_name 13 c.nd) dgs_nil)))) (ds_cons (ds_set 14 c.nd (de_lst (da_cons (de_call (F_word_of gf) c (da_cons (de_var 12) (da_cons (de_tup (da_cons (de_tup (da_cons de_int (da_cons de_int da_nil))) (da_cons (de_tup (da_cons de_int (da_cons de_int da_nil))) da_nil))) da_nil)) (by omega)) (da_cons (de_call (F_word_of gf) c (da_cons (de_var 12) (da_cons (de_tup (da_cons (de_tup (da_cons de_int (da_cons de_int da_nil))) (da_cons (de_tup (da_cons (de_un un_neg s_neg.op de_int) (da_cons de_int da_nil))) da_nil))) da_nil)) (by omega)) (da_cons (de_call (F_word_of gf) c (da_cons (de_var 12) (da_cons (de_tup (da_cons (de_tup (da_cons de_int (da_cons de_int da_nil))) (da_cons (de_tup (da_cons de_int (da_cons de_int da_nil))) da_nil))) da_nil)) (by omega)) da_nil))))) (ds_cons (ds_set 15 c.nd (de_lst (da_cons (de_tup (da_cons (de_tup (da_cons de_str (da_cons de_int da_nil))) (da_cons (de_tup (da_cons de_str (da_cons de_int da_nil))) da_nil))) (da_cons (de_tup (da_cons (de_tup (da_cons de_str (da_cons (de_un un_neg s_neg.op de_int) da_nil))) (da_cons (de_tup (da_cons de_str (da_cons (de_un un_neg s_neg.op de_int) da_nil))) da_nil))) (da_cons (de_tup (da_cons (de_tup (da_cons de_str (da_cons de_int da_nil))) (da_cons (de_tup (da_cons de_str (da_cons de_int da_nil))) da_nil))) da_nil))))) (ds_cons (ds_if (dt_w (dw_or (dt_cmp (op_neD c.hu64) s_ne.op (de_var 14) (de_var 15) (nomark _)) (dw_or (dt_cmp (op_neD c.hu64) s_ne.op (de_call (F_hit gf) c (da_cons (de_var 12) (da_cons (de_tup (da_cons (de_tup (da_cons de_int (da_cons de_int da_nil))) (da_cons (de_tup (da_cons de_int (da_cons de_int da_nil))) da_nil))) da_nil)) (by omega)) (de_tup (da_cons de_int (da_cons (de_tup (da_cons de_int (da_cons de_int da_nil))) da_nil))) (nomark _)) (dw_or1 (dt_cmp op_isntZ s_is.op (de_call (F_does gf) c (da_cons (de_var 12) (da_cons (de_tup (da_cons (de_tup (da_cons de_int (da_cons de_int da_nil))) (da_cons (de_tup (da_cons de_int (da_cons de_int da_nil))) da_nil))) (da_cons (de_var 13) da_nil))) (by omega)) de_bl (nomark _)))))) (ds_cons (ds_ret de_bl) ds_nil) ds_nil) (ds_cons (ds_ret (de_and (de_cmp (op_eqD c.hu64) s_eq.op (de_call (F_hit gf) c (da_cons (de_var 12) (da_cons (de_tup (da_cons (de_tup (da_cons de_int (da_cons de_int da_nil))) (da_cons (de_tup (da_cons de_int (da_cons de_int da_nil))) da_nil))) da_nil)) (by omega)) (de_tup (da_cons de_int (da_cons (de_tup (da_cons de_int (da_cons de_int da_nil))) da_nil))) (nomark _)) (de_one (de_cmp (op_eqD c.hu64) s_eq.op (de_call (F_hit gf) c (da_cons (de_var 12) (da_cons (de_tup (da_cons (de_tup (da_cons de_int (da_cons de_int da_nil))) (da_cons (de_tup (da_cons de_int (da_cons de_int da_nil))) da_nil))) da_nil)) (by omega)) (de_tup (da_cons de_int (da_cons (de_tup (da_cons de_int (da_cons de_int da_nil))) da_nil))) (nomark _))))) ds_nil))))))
end
end Z
end
section
set_option maxHeartbeats 4000000
namespace Z
open PySem PySem.Spec L2
theorem m_is_whole {n : Nat} {v : D} {lo hi : Int} (h : okD n v = true) : r_is_whole [v, .int lo, .int hi] = pure (.bool (isWhole v lo hi)) := by
  refine W_eq fun S => ?_
  unfold r_is_whole
  rw [W_fnT]
  simp [b_is_whole, N_is_whole, rd_ok' h, isi_int h, isi_bool h]
  cases v with
  | int i =>
    by_cases h1 : lo ≤ i <;> by_cases h2 : i ≤ hi <;> simp [isTy, isWhole, h1, h2]
  | _ => simp [isTy, isWhole]
theorem m_is_row {n : Nat} {v : D} {lo hi : Int} (h : okD n v = true) : r_is_row [v, .int lo, .int hi] = pure (.bool (isRow v lo hi)) := by
  refine W_eq fun S => ?_
  unfold r_is_row
  rw [W_fnT]
  simp [b_is_row, N_is_row, rd_ok' h, isi_tuple h]
  cases v with
  | tuple xs =>
    by_cases h1 : lo ≤ (xs.length : Int) <;> by_cases h2 : (xs.length : Int) ≤ hi <;> simp [isTy, isRow, h1, h2]
  | _ => simp [isTy, isRow]
theorem m_truly {a b : Bool} : r__law_truly [.bool a, .bool b] = pure (.bool (a == b)) := by
  refine W_eq fun S => ?_
  unfold r__law_truly
  rw [W_fnT]
  simp [b__law_truly, N__law_truly, isi_bool (n := 5) (v := .bool a) (by simp), isTy, gEq_ok, eqD]
/-! ### walls, halls -/
def isWall (high e : Int) (v : D) : Bool := match v with
  | .tuple [a, b, c] => isWhole a 1 (e - 1) && isWhole c 0 high && (match c with
    | .int ci => isWhole b 0 ci
    | _ => false)
  | _ => false
theorem row3 {v : D} (h : isRow v 3 3 = true) : ∃ a b c, v = .tuple [a, b, c] := by
  cases v with
  | tuple xs =>
    simp [isRow] at h
    match xs, h with
    | [], h => simp at h
    | [_], h => simp at h
    | [_, _], h => simp at h
    | [a, b, c], _ => exact ⟨a, b, c, rfl⟩
    | _ :: _ :: _ :: _ :: _, h => simp at h; omega
  | _ => simp [isRow] at h
theorem m_is_wall {n : Nat} {high e : Int} {v : D} (h : okD (n + 1) v = true) : r_is_wall [.int high, .int e, v] = pure (.bool (isWall high e v)) := by
  refine W_eq fun S => ?_
  unfold r_is_wall
  rw [W_fnT]
  simp [b_is_wall, N_is_wall, m_is_row h]
  cases hr : isRow v 3 3 with
  | false =>
    have hw : isWall high e v = false := by
      unfold isWall
      split
      · simp [isRow] at hr
      · rfl
    simp [hw]
  | true =>
    obtain ⟨a, b, c, rfl⟩ := row3 hr
    simp only [okD_tuple, okDs_cons', Bool.and_eq_true] at h
    obtain ⟨ha, hb, hc, -⟩ := h
    simp [at0, at1, at2, m_is_whole ha, m_is_whole hb, m_is_whole hc, isWall]
    cases h1 : isWhole a 1 (e - 1) <;> simp
    cases h2 : isWhole c 0 high <;> simp
    cases c with
    | int ci => simp [m_is_whole hb]
    | _ => simp [isWhole] at h2
/-- the first place -/
def fst0 (v : D) : Int := match v with
  | .tuple (.int i :: _) => i
  | _ => 0
def incr : List D → Bool
  | a :: b :: r => decide (fst0 a < fst0 b) && incr (b :: r)
  | _ => true
def isHall (v : D) : Bool := match v with
  | .tuple [.int h, .tuple ws, .int e] => decide (1 ≤ h) && decide (h ≤ 60) && decide (1 ≤ e) && decide (e ≤ h) && decide (ws.length ≤ 3) && ws.all (isWall h e) && incr ws
  | _ => false
theorem wall_fst {h e : Int} {v : D} (w : isWall h e v = true) : ∃ i b c, v = .tuple [.int i, b, c] ∧ 1 ≤ i ∧ i ≤ e - 1 ∧ fst0 v = i := by
  unfold isWall at w
  split at w
  · rename_i a b c
    cases a with
    | int i =>
      simp [isWhole] at w
      exact ⟨i, b, c, rfl, by omega, by omega, rfl⟩
    | _ => simp [isWhole] at w
  · cases w
theorem incr_pairs : ∀ ws : List D, (pairDs ws (ws.drop 1)).all (fun d => match d with
    | .tuple [a, b] => decide (fst0 a < fst0 b)
    | _ => false) = incr ws
  | [] => rfl
  | [a] => rfl
  | a :: b :: r => by
    have := incr_pairs (b :: r)
    simp only [List.drop_one, List.tail_cons] at this ⊢
    rw [pairDs, incr, List.all_cons, this]
theorem pair_mem {xs ys : List D} {d : D} (h : d ∈ pairDs xs ys) : ∃ x y, x ∈ xs ∧ y ∈ ys ∧ d = .tuple [x, y] := by
  obtain ⟨i, hi⟩ := List.mem_iff_getElem?.mp h
  obtain ⟨x, y, h1, h2, h3⟩ := pairDs_get hi
  exact ⟨x, y, List.mem_of_getElem? h1, List.mem_of_getElem? h2, h3⟩
theorem m_is_hall {n : Nat} {v : D} (h : okD (n + 3) v = true) : r_is_hall [v] = pure (.bool (isHall v)) := by
  refine W_eq fun S => ?_
  unfold r_is_hall
  rw [W_fnT]
  simp [b_is_hall, N_is_hall, m_is_row h]
  cases hr : isRow v 3 3 with
  | false =>
    have hw : isHall v = false := by
      unfold isHall
      split
      · simp [isRow] at hr
      · rfl
    simp [hw]
  | true =>
    obtain ⟨a, b, c, rfl⟩ := row3 hr
    simp only [okD_tuple, okDs_cons', Bool.and_eq_true] at h
    obtain ⟨ha, hb, hc, -⟩ := h
    simp [at0, at1, at2, m_is_whole ha, m_is_whole hc]
    cases h1 : isWhole a 1 60 with
    | false =>
      have hw : isHall (.tuple [a, b, c]) = false := by
        unfold isHall
        split
        · rename_i e
          simp at e
          simp [e.1, isWhole] at h1
          simp
          intro h2 h3
          omega
        · rfl
      simp [hw]
    | true =>
      cases a with
      | int hh =>
        simp [m_is_whole hc]
        cases h2 : isWhole c 1 hh with
        | false =>
          have hw : isHall (.tuple [.int hh, b, c]) = false := by
            unfold isHall
            split
            · rename_i e
              simp at e
              simp [e.2.2, e.1, isWhole] at h2
              simp
              intro h3 h4 h5 h6
              omega
            · rfl
          simp [hw]
        | true =>
          cases c with
          | int e =>
            simp [asg, asgs, m_is_row hb]
            cases h3 : isRow b 0 3 with
            | false =>
              have hw : isHall (.tuple [.int hh, b, .int e]) = false := by
                unfold isHall
                split
                · rename_i e
                  simp at e
                  simp [e.2.1, isRow] at h3
                  simp
                  intro h3 h4 h5 h6
                  omega
                · rfl
              simp [hw]
            | true =>
              cases b with
              | tuple ws =>
                simp only [okD_tuple] at hb
                have l3 : ws.length ≤ 3 := by simp [isRow] at h3; omega
                have e1 := lc_map (t := .name 4) (f := eCall 3 r_is_wall (aCons (eVar 1) (aCons (eVar 3) (aCons (eVar 4) aNil)))) (env := wipeE [some (.tuple [.int hh, .tuple ws, .int e]), some (.int hh), some (.tuple ws), some (.int e), none, none, none] [4]) (p := ⟨ws, fun _ => true⟩)
                  (fun d => [some (.tuple [.int hh, .tuple ws, .int e]), some (.int hh), some (.tuple ws), some (.int e), some d, none, none]) (fun d => .bool (isWall hh e d)) (fun _ => rfl) (fun d _ S => by simp [asg, wipeE]) (fun d hd => by simp [m_is_wall (okDs_mem hb d hd)]) (by simp; omega)
                simp [e1, gAll_map]
                have b1 : 1 ≤ hh ∧ hh ≤ 60 := by simpa [isWhole] using h1
                have b2 : 1 ≤ e ∧ e ≤ hh := by simpa [isWhole] using h2
                by_cases hall : ∀ x ∈ ws, isWall hh e x = true
                · rw [if_pos hall]
                  have e2 := lc_map (t := .tup [.name 5, .name 6]) (f := e2 (g2 gLt) (e2 (g2 gIx) (eVar 5) (eC (.int 0))) (e2 (g2 gIx) (eVar 6) (eC (.int 0)))) (env := wipeE [some (.tuple [.int hh, .tuple ws, .int e]), some (.int hh), some (.tuple ws), some (.int e), none, none, none] [5, 6]) (p := ⟨pairDs ws (ws.drop 1), fun _ => true⟩)
                    (fun d => match d with
                      | .tuple [x, y] => [some (.tuple [.int hh, .tuple ws, .int e]), some (.int hh), some (.tuple ws), some (.int e), none, some x, some y]
                      | _ => []) (fun d => .bool (match d with
                      | .tuple [a, b] => decide (fst0 a < fst0 b)
                      | _ => false)) (fun _ => rfl) (fun d hd S => by
                        obtain ⟨x, y, _, _, rfl⟩ := pair_mem hd
                        simp [asg, asgs, wipeE]) (fun d hd => by
                        obtain ⟨x, y, hx, hy, rfl⟩ := pair_mem hd
                        obtain ⟨i, p, q, rfl, _, _, ei⟩ := wall_fst (hall x hx)
                        obtain ⟨j, p', q', rfl, _, _, ej⟩ := wall_fst (hall y (List.mem_of_mem_drop hy))
                        simp [at0, ei, ej]) (by
                        have : (pairDs ws (ws.drop 1)).length ≤ ws.length := by
                          have : ∀ xs ys : List D, (pairDs xs ys).length ≤ xs.length := by
                            intro xs
                            induction xs with
                            | nil => intro ys; simp [pairDs]
                            | cons x xs ih =>
                              intro ys
                              cases ys with
                              | nil => simp [pairDs]
                              | cons y ys => simp [pairDs]; exact ih ys
                          exact this _ _
                        show (pairDs ws (ws.drop 1)).length ≤ 1000000
                        omega)
                  rw [cut1, e2]
                  simp only [W_pure]
                  rw [gAll_map, incr_pairs]
                  have hw : isHall (.tuple [.int hh, .tuple ws, .int e]) = incr ws := by
                    have : ws.all (isWall hh e) = true := List.all_eq_true.mpr hall
                    simp [isHall, b1, b2, l3, this]
                  simp [hw]
                · rw [if_neg hall]
                  have : ws.all (isWall hh e) = false := by
                    rw [Bool.eq_false_iff]
                    exact fun z => hall (List.all_eq_true.mp z)
                  simp [isHall, this]
              | _ => simp [isRow] at h3
          | _ => simp [isWhole] at h2
      | _ => simp [isWhole] at h1
/-- one wall behind the place last -/
def goodStep (h e last : Int) (w : D) : Option Int := match w with
  | .tuple [.int a, .int b, c] => if last + 1 ≤ a ∧ a ≤ e - 1 ∧ 0 ≤ b ∧ b ≤ h ∧ isWhole c b h = true then some a else none
  | _ => none
def goodGo (h e : Int) : Int → List D → Bool
  | _, [] => true
  | last, w :: r => match goodStep h e last w with
    | some a => goodGo h e a r
    | none => false
/-- the two ways to ask are one -/
theorem good_eq {h e : Int} : ∀ (ws : List D) (last : Int), 0 ≤ last → goodGo h e last ws = (ws.all (isWall h e) && incr ws && (match ws with
    | [] => true
    | w :: _ => decide (last < fst0 w)))
  | [], last, _ => rfl
  | w :: r, last, hl => by
    cases es : goodStep h e last w with
    | none =>
      have : isWall h e w = false ∨ ¬ last < fst0 w := by
        by_cases hw : isWall h e w = true
        · right
          unfold isWall at hw
          split at hw
          · rename_i a b c
            cases a with
            | int ai =>
              cases b with
              | int bi =>
                cases c with
                | int ci =>
                  simp [isWhole] at hw
                  simp [goodStep, isWhole] at es
                  show ¬ last < ai
                  intro hlt
                  have := es (by omega) (by omega) (by omega) (by omega) (by omega)
                  omega
                | _ => simp [isWhole] at hw
              | _ => cases c <;> simp [isWhole] at hw
            | _ => simp [isWhole] at hw
          · cases hw
        · left
          simpa using hw
      rcases this with z | z
      · simp [goodGo, es, z]
      · simp [goodGo, es, z]
    | some a =>
      have hs : ∃ b c, w = .tuple [.int a, .int b, .int c] ∧ last + 1 ≤ a ∧ a ≤ e - 1 ∧ 0 ≤ b ∧ b ≤ c ∧ c ≤ h := by
        unfold goodStep at es
        split at es
        · rename_i a' b c
          split at es
          · rename_i hc
            cases es
            cases c with
            | int ci =>
              simp [isWhole] at hc
              exact ⟨b, ci, rfl, by omega, by omega, by omega, by omega, by omega⟩
            | _ => simp [isWhole] at hc
          · cases es
        · cases es
      obtain ⟨b, c, rfl, h1, h2, h3, h4, h5⟩ := hs
      have hw : isWall h e (.tuple [.int a, .int b, .int c]) = true := by
        simp [isWall, isWhole]
        omega
      have hlt : last < a := by omega
      rw [goodGo, es]
      dsimp only
      rw [good_eq r a (by omega)]
      have hf : fst0 (.tuple [.int a, .int b, .int c]) = a := rfl
      simp only [List.all_cons, hw, Bool.true_and, hf, hlt, decide_true, Bool.and_true]
      cases r with
      | nil => rfl
      | cons w2 r2 =>
        simp only [incr, hf]
        cases (w2 :: r2).all (isWall h e) <;> cases incr (w2 :: r2) <;> simp
theorem good0 {h e : Int} {ws : List D} : goodGo h e 0 ws = (ws.all (isWall h e) && incr ws) := by
  rw [good_eq ws 0 (by omega)]
  cases ws with
  | nil => rfl
  | cons w r =>
    cases hw : isWall h e w with
    | false => simp [hw]
    | true =>
      obtain ⟨i, b, c, rfl, h1, _, h2⟩ := wall_fst hw
      have : (0 : Int) < fst0 (.tuple [.int i, b, c]) := by rw [h2]; omega
      simp [this]
end Z
end
section
set_option maxHeartbeats 4000000
namespace Z
open PySem PySem.Spec L2

theorem W_eqE {m : M D} {c : Str} (h : ∀ S, W m S (fun _ _ => False) (fun c' S' => c' = c ∧ S' = S)) : m = raise c := by
  funext S
  have := h S
  unfold W at this
  cases e : m S with
  | ok a S' => rw [e] at this; exact this.elim
  | err c S' => rw [e] at this; obtain ⟨rfl, rfl⟩ := this; rfl
  | no => rw [e] at this; exact this.elim
/-! ### the greatest common divisor -/
theorem gcd_loop {S : Store} {Pn : Ev → Store → Prop} {Pr : D → Store → Prop} : ∀ (n x y : Nat), y < n → Pn [some (.int (Nat.gcd x y : Nat)), some (.int 0)] S →
    WS (whileM (tB1 (e2 (g2 gNe) (eVar 1) (eC (.int 0)))) (sSeq (sPar 0 1 (eVar 1) (e2 (g2 gMod) (eVar 0) (eVar 1))) sNil) n) [some (.int (x : Nat)), some (.int (y : Nat))] S Pn Pr NE
  | 0, _, _, h, _ => by omega
  | n + 1, x, y, h, hp => by
    refine WSW ?_
    by_cases hy : y = 0
    · subst hy
      simpa using hp
    · have hy' : ¬ ((y : Int) = 0) := by omega
      have hy2 : (0 : Int) < y := by omega
      have e : (x : Int) % (y : Int) = ((x % y : Nat) : Int) := by omega
      simp [hy', hy2, e, -Int.natCast_emod]
      rw [if_neg hy]
      refine ⟨by omega, gcd_loop n y (x % y) (by have := Nat.mod_lt x (by omega : 0 < y); omega) ?_⟩
      have : Nat.gcd y (x % y) = Nat.gcd x y := by rw [Nat.gcd_comm x y, Nat.gcd_rec y x, Nat.gcd_comm]
      rw [this]
      exact hp
theorem abs_cast (i : Int) : (if i < 0 then -i else i) = ((i.natAbs : Nat) : Int) := by
  split <;> omega
theorem m_divisor {a b : Int} : r_divisor_of [.int a, .int b] = pure (.int (Int.gcd a b : Nat)) := by
  refine W_eq fun S => ?_
  unfold r_divisor_of
  rw [W_fnT]
  simp [b_divisor_of, N_divisor_of, abs_cast, fu2]
  refine gcd_loop _ a.natAbs b.natAbs (by omega) ?_
  simp [Int.gcd]
theorem gcd_loop2 {S : Store} {t b : D} {Pn : Ev → Store → Prop} {Pr : D → Store → Prop} : ∀ (n x y : Nat), y < n → Pn [some t, some b, some (.int (Nat.gcd x y : Nat)), some (.int 0)] S →
    WS (whileM (tB1 (e2 (g2 gNe) (eVar 3) (eC (.int 0)))) (sSeq (sPar 2 3 (eVar 3) (e2 (g2 gMod) (eVar 2) (eVar 3))) sNil) n) [some t, some b, some (.int (x : Nat)), some (.int (y : Nat))] S Pn Pr NE
  | 0, _, _, h, _ => by omega
  | n + 1, x, y, h, hp => by
    refine WSW ?_
    by_cases hy : y = 0
    · subst hy
      simpa using hp
    · have hy' : ¬ ((y : Int) = 0) := by omega
      have hy2 : (0 : Int) < y := by omega
      have e : (x : Int) % (y : Int) = ((x % y : Nat) : Int) := by omega
      simp [hy', hy2, e, -Int.natCast_emod]
      rw [if_neg hy]
      refine ⟨by omega, gcd_loop2 n y (x % y) (by have := Nat.mod_lt x (by omega : 0 < y); omega) ?_⟩
      have : Nat.gcd y (x % y) = Nat.gcd x y := by rw [Nat.gcd_comm x y, Nat.gcd_rec y x, Nat.gcd_comm]
      rw [this]
      exact hp
theorem small_of {i : Int} (h : i.natAbs < 2 ^ 1000) : small i = true := by
  unfold small
  rw [decide_eq_true_iff]
  exact Nat.lt_trans h (Nat.pow_lt_pow_right (by omega) (by omega))
theorem m_lowest {t b : Int} (hb : 0 < b) (hs : b ≤ 1000000000000) : r__law_lowest [.int t, .int b] = pure (.tuple [.int (t / (Int.gcd t b : Nat)), .int (b / (Int.gcd t b : Nat))]) := by
  refine W_eq fun S => ?_
  unfold r__law_lowest
  rw [W_fnT]
  simp [b__law_lowest, N__law_lowest, abs_cast, fu2]
  refine gcd_loop2 _ t.natAbs b.natAbs (by omega) ?_
  have hg : 0 < Nat.gcd t.natAbs b.natAbs := Nat.gcd_pos_of_pos_right _ (by omega)
  have hg2 : Nat.gcd t.natAbs b.natAbs ≤ b.natAbs := Nat.gcd_le_right _ (by omega)
  have hg' : (0 : Int) < (Nat.gcd t.natAbs b.natAbs : Nat) := by omega
  have sm : small (Nat.gcd t.natAbs b.natAbs : Nat) = true := small_of (by
    have : (1000000000000 : Nat) < 2 ^ 1000 := by decide +kernel
    omega)
  simp [hb, hg', sm]
  refine ⟨by omega, ?_⟩
  rw [W_endT rfl]
  simp [Int.gcd]
/-! ### fractions, rays -/
def isFrac (v : D) : Bool := match v with
  | .tuple [.int a, .int b] => decide (-1000000 ≤ a) && decide (a ≤ 1000000) && decide (1 ≤ b) && decide (b ≤ 1000000) && decide (Int.gcd a b = 1)
  | _ => false
theorem row2 {v : D} (h : isRow v 2 2 = true) : ∃ a b, v = .tuple [a, b] := by
  cases v with
  | tuple xs =>
    simp [isRow] at h
    match xs, h with
    | [], h => simp at h
    | [_], h => simp at h
    | [a, b], _ => exact ⟨a, b, rfl⟩
    | _ :: _ :: _ :: _, h => simp at h; omega
  | _ => simp [isRow] at h
theorem m_is_fraction {n : Nat} {v : D} (h : okD (n + 1) v = true) : r_is_fraction [v] = pure (.bool (isFrac v)) := by
  refine W_eq fun S => ?_
  unfold r_is_fraction
  rw [W_fnT]
  simp [b_is_fraction, N_is_fraction, m_is_row h]
  cases hr : isRow v 2 2 with
  | false =>
    have hw : isFrac v = false := by
      unfold isFrac
      split
      · simp [isRow] at hr
      · rfl
    simp [hw]
  | true =>
    obtain ⟨a, b, rfl⟩ := row2 hr
    simp only [okD_tuple, okDs_cons', Bool.and_eq_true] at h
    obtain ⟨ha, hb, -⟩ := h
    simp [at0, at1, m_is_whole ha, m_is_whole hb]
    cases h1 : isWhole a (-1000000) 1000000 with
    | false =>
      simp
      unfold isFrac
      split
      · rename_i e1
        simp at e1
        obtain ⟨rfl, rfl⟩ := e1
        simp [isWhole] at h1
        simp
        omega
      · rfl
    | true =>
      cases h2 : isWhole b 1 1000000 with
      | false =>
        simp
        unfold isFrac
        split
        · rename_i e1
          simp at e1
          obtain ⟨rfl, rfl⟩ := e1
          simp [isWhole] at h2
          simp
          omega
        · rfl
      | true =>
        cases a with
        | int a =>
          cases b with
          | int b =>
            simp [isWhole] at h1 h2
            simp [m_divisor, isFrac, h1, h2]
            omega
          | _ => simp [isWhole] at h2
        | _ => simp [isWhole] at h1
theorem low_eq {a b : Int} (h1 : 1 ≤ b) (h2 : b ≤ 1000000) : (eqD (.tuple [.int (a / (Int.gcd a b : Nat)), .int (b / (Int.gcd a b : Nat))]) (.tuple [.int a, .int b])) = decide (Int.gcd a b = 1) := by
  have hg : 0 < Int.gcd a b := Int.gcd_pos_iff.mpr (.inr (by omega))
  simp [eqD, eqDs]
  by_cases hy : Int.gcd a b = 1
  · simp [hy]
  · have : ¬ b / (Int.gcd a b : Nat) = b := by
      intro e
      have h3 : b / (Int.gcd a b : Nat) < b := Int.ediv_lt_self_of_pos_of_ne_one (by omega) (by omega)
      omega
    simp [hy, this]
end Z
end
section
set_option maxHeartbeats 4000000
namespace Z
open PySem PySem.Spec L2
@[simp] theorem gPow6 : gPow (.int 10) (.int 6) = pure (.int 1000000) := by
  unfold gPow
  dsimp only
  rw [if_pos (by decide)]
  rfl
theorem frac_int {v : D} (h : isFrac v = true) : ∃ a b : Int, v = .tuple [.int a, .int b] ∧ -1000000 ≤ a ∧ a ≤ 1000000 ∧ 1 ≤ b ∧ b ≤ 1000000 := by
  unfold isFrac at h
  split at h
  · rename_i a b
    simp at h
    exact ⟨a, b, rfl, by omega, by omega, by omega, by omega⟩
  · cases h
def isRay (hh : Int) (v : D) : Bool := match v with
  | .tuple [f, g] => isFrac f && isFrac g && (match f, g with
    | .tuple [.int t, .int b], .tuple [.int r, .int l] => decide (0 ≤ t) && decide (t ≤ hh * b) && decide (-l ≤ r) && decide (r ≤ l)
    | _, _ => false)
  | _ => false
theorem m_is_within {hh t b r l : Int} {y z : D} (h1 : 1 ≤ hh) (h2 : hh ≤ 60) (h3 : 1 ≤ b) (h4 : b ≤ 1000000) : r_is_within [.tuple [.int hh, y, z], .tuple [.tuple [.int t, .int b], .tuple [.int r, .int l]]] = pure (.bool (decide (0 ≤ t) && decide (t ≤ hh * b) && decide (-l ≤ r) && decide (r ≤ l))) := by
  refine W_eq fun S => ?_
  unfold r_is_within
  rw [W_fnT]
  have s1 : small hh = true := small_of (by have : (60 : Nat) < 2 ^ 1000 := by decide +kernel
                                            omega)
  have s2 : small b = true := small_of (by have : (1000000 : Nat) < 2 ^ 1000 := by decide +kernel
                                           omega)
  simp [b_is_within, N_is_within, asg, asgs, at0, s1, s2]
  by_cases c1 : 0 ≤ t <;> by_cases c2 : t ≤ hh * b <;> by_cases c3 : -l ≤ r <;> by_cases c4 : r ≤ l <;> simp [c1, c2, c3, c4]
theorem m_fits_ray {n : Nat} {hh : Int} {y z v : D} (h : okD (n + 2) v = true) (h1 : 1 ≤ hh) (h2 : hh ≤ 60) : r_fits_ray [.tuple [.int hh, y, z], v] = pure (.bool (isRay hh v)) := by
  refine W_eq fun S => ?_
  unfold r_fits_ray
  rw [W_fnT]
  simp [b_fits_ray, N_fits_ray, m_is_row h]
  cases hr : isRow v 2 2 with
  | false =>
    have hw : isRay hh v = false := by
      unfold isRay
      split
      · simp [isRow] at hr
      · rfl
    simp [hw]
  | true =>
    obtain ⟨f, g, rfl⟩ := row2 hr
    simp only [okD_tuple, okDs_cons', Bool.and_eq_true] at h
    obtain ⟨hf, hg, -⟩ := h
    simp [at0, at1, m_is_fraction hf, m_is_fraction hg]
    cases c1 : isFrac f with
    | false => simp [isRay, c1]
    | true =>
      cases c2 : isFrac g with
      | false => simp [isRay, c2]
      | true =>
        obtain ⟨t, b, rfl, _, _, hb1, hb2⟩ := frac_int c1
        obtain ⟨r, l, rfl, _, _, _, _⟩ := frac_int c2
        simp [m_is_within h1 h2 hb1 hb2, isRay, c1, c2]
theorem m_need_hall {n : Nat} {v : D} (h : okD (n + 3) v = true) : r_need_hall [v] = if isHall v = true then pure .none else raise "InvalidHall" := by
  cases hv : isHall v with
  | true =>
    rw [if_pos rfl]
    refine W_eq fun S => ?_
    unfold r_need_hall
    rw [W_fnT]
    simp [b_need_hall, N_need_hall, m_is_hall h, hv]
  | false =>
    rw [if_neg (by decide)]
    refine W_eqE fun S => ?_
    unfold r_need_hall
    rw [W_fnT]
    simp [b_need_hall, N_need_hall, m_is_hall h, hv]
theorem hall_of {v : D} (h : isHall v = true) : ∃ (hh e : Int) (ws : List D), v = .tuple [.int hh, .tuple ws, .int e] ∧ 1 ≤ hh ∧ hh ≤ 60 ∧ 1 ≤ e ∧ e ≤ hh ∧ ws.length ≤ 3 ∧ (∀ w ∈ ws, isWall hh e w = true) ∧ incr ws = true := by
  unfold isHall at h
  split at h
  · rename_i hh ws e
    simp at h
    exact ⟨hh, e, ws, rfl, by omega, by omega, by omega, by omega, by omega, h.1.2, h.2⟩
  · cases h
def hallH (v : D) : Int := match v with
  | .tuple (.int h :: _) => h
  | _ => 0
end Z
end
section
set_option maxHeartbeats 4000000
namespace Z
open PySem PySem.Spec L2
/-! ### events, words -/
def isEvent (ks : List Str) (v : D) : Bool := match v with
  | .tuple [.str s, b] => decide (s ∈ ks) && isWhole b (-9) 9
  | _ => false
theorem any_str {ks : List Str} {s : Str} : (ks.map D.str).any (fun z => eqD z (.str s)) = decide (s ∈ ks) := by
  induction ks with
  | nil => rfl
  | cons k ks ih =>
    rw [List.map_cons, List.any_cons, ih]
    simp only [eqD, List.mem_cons]
    by_cases h : k = s
    · simp [h]
    · have h' : ¬ s = k := fun z => h z.symm
      simp [h, h']
theorem okD_str {n : Nat} {s : Str} : okD n (.str s) = PyData.strOk s := by cases n <;> rfl
theorem okDs_strs {n : Nat} {ks : List Str} (h : ∀ k ∈ ks, PyData.strOk k = true) : okDs n (ks.map .str) = true :=
  okDs_of fun x hx => by
    obtain ⟨k, hk, rfl⟩ := List.mem_map.mp hx
    rw [okD_str]
    exact h k hk
theorem gIn_t {ks : List Str} {s : Str} {neg : Bool} (h : ∀ k ∈ ks, PyData.strOk k = true) (hs : PyData.strOk s = true) : gIn neg (.str s) (.tuple (ks.map .str)) = pure (.bool (neg ^^ decide (s ∈ ks))) := by
  unfold gIn
  dsimp only
  rw [if_pos ⟨by rw [okD_str]; exact hs, okDs_strs h⟩, any_str]
theorem gIn_l {ks : List Str} {s : Str} {neg : Bool} (h : ∀ k ∈ ks, PyData.strOk k = true) (hs : PyData.strOk s = true) : gIn neg (.str s) (.list (ks.map .str)) = pure (.bool (neg ^^ decide (s ∈ ks))) := by
  unfold gIn
  dsimp only
  rw [if_pos ⟨by rw [okD_str]; exact hs, okDs_strs h⟩, any_str]
theorem m_is_event {n : Nat} {ks : List Str} {v : D} (hk : ∀ k ∈ ks, PyData.strOk k = true) (h : okD (n + 1) v = true) : r_is_event [v, .tuple (ks.map .str)] = pure (.bool (isEvent ks v)) := by
  refine W_eq fun S => ?_
  unfold r_is_event
  rw [W_fnT]
  simp [b_is_event, N_is_event, m_is_row h]
  cases hr : isRow v 2 2 with
  | false =>
    have hw : isEvent ks v = false := by
      unfold isEvent
      split
      · simp [isRow] at hr
      · rfl
    simp [hw]
  | true =>
    obtain ⟨a, b, rfl⟩ := row2 hr
    simp only [okD_tuple, okDs_cons', Bool.and_eq_true] at h
    obtain ⟨ha, hb, -⟩ := h
    simp [at0, at1, rd_ok' ha, isi_str ha]
    cases a with
    | str s =>
      have hs : PyData.strOk s = true := by rw [okD_str] at ha; exact ha
      by_cases hm : s ∈ ks
      · simp [isTy, gIn_t hk hs, hm, m_is_whole hb, isEvent]
      · simp [isTy, gIn_t hk hs, hm, m_is_whole hb, isEvent]
    | _ => simp [isTy, isEvent]
def lastKs (k : Nat) (many : Nat) : List Str := if k = many + 1 then ["screen"] else ["under", "over"]
def isWord (many : Nat) (v : D) : Bool := match v with
  | .tuple xs => decide (1 ≤ xs.length) && decide (xs.length ≤ many + 1) && xs.dropLast.all (isEvent ["through"]) && (match xs.getLast? with
    | some l => isEvent (lastKs xs.length many) l
    | none => false)
  | _ => false
theorem through_ok : ∀ k ∈ (["through"] : List Str), PyData.strOk k = true := by
  intro k hk
  simp only [List.mem_cons, List.not_mem_nil, or_false] at hk
  subst hk
  decide +kernel
theorem last_ok {k many : Nat} : ∀ x ∈ lastKs k many, PyData.strOk x = true := by
  intro x hx
  unfold lastKs at hx
  split at hx
  · simp only [List.mem_cons, List.not_mem_nil, or_false] at hx
    subst hx
    decide +kernel
  · simp only [List.mem_cons, List.not_mem_nil, or_false] at hx
    rcases hx with rfl | rfl <;> decide +kernel
theorem cut_last {xs : List D} : cutD xs none (some (-1)) = xs.dropLast := by
  have e1 : HT.sIx xs.length 0 none = 0 := rfl
  have e2 : HT.sIx xs.length xs.length (some (-1)) = xs.length - 1 := by
    show (if (-1 : Int) < 0 then ((-1 : Int) + (xs.length : Int)).toNat else min (-1 : Int).toNat xs.length) = xs.length - 1
    rw [if_pos (by omega)]
    omega
  unfold cutD
  rw [e1, e2, List.dropLast_eq_take]
  simp
theorem at_last {xs : List D} (h : xs ≠ []) : atI xs (-1) = xs.getLast? := by
  have hl : 0 < xs.length := List.length_pos_iff.mpr h
  unfold atI ixN
  rw [if_neg (by omega), if_pos (by omega), Option.bind_some, List.getLast?_eq_getElem?]
  congr 1
  omega
/-- how many walls -/
def hallN (v : D) : Nat := match v with
  | .tuple [_, .tuple ws, _] => ws.length
  | _ => 0
theorem m_fits_word {n : Nat} {a z v : D} {ws : List D} (h : okD (n + 2) v = true) (hw : ws.length ≤ 3) : r_fits_word [.tuple [a, .tuple ws, z], v] = pure (.bool (isWord ws.length v)) := by
  refine W_eq fun S => ?_
  unfold r_fits_word
  rw [W_fnT]
  simp [b_fits_word, N_fits_word, at1, m_is_row h]
  cases hr : isRow v 1 ((ws.length : Int) + 1) with
  | false =>
    have hw : isWord ws.length v = false := by
      unfold isWord
      split
      · rename_i xs
        simp [isRow] at hr
        simp
        intro h1 h2
        omega
      · rfl
    simp [hw]
  | true =>
    cases v with
    | tuple xs =>
      simp [isRow] at hr
      simp only [okD_tuple] at h
      have hne : xs ≠ [] := fun z => by rw [z] at hr; simp at hr
      have e1 := lc_map (t := .name 3) (f := eCall 2 r_is_event (aCons (eVar 3) (aCons (eTup (aCons (eC (.str "through")) aNil)) aNil))) (env := wipeE [some (.tuple [a, .tuple ws, z]), some (.tuple xs), some (.int (ws.length : Nat)), none] [3]) (p := ⟨xs.dropLast, fun _ => true⟩)
        (fun d => [some (.tuple [a, .tuple ws, z]), some (.tuple xs), some (.int (ws.length : Nat)), some d]) (fun d => .bool (isEvent ["through"] d)) (fun _ => rfl) (fun d _ S => by simp [asg, wipeE]) (fun d hd => by
          have := m_is_event (ks := ["through"]) through_ok (okDs_mem h d ((List.dropLast_sublist xs).subset hd))
          simpa using this) (by show xs.dropLast.length ≤ 1000000; rw [List.length_dropLast]; omega)
      obtain ⟨l, hl⟩ : ∃ l, xs.getLast? = some l := ⟨_, List.getLast?_eq_some_getLast hne⟩
      have hlm : l ∈ xs := List.mem_of_getLast? hl
      have s1 := m_is_event (ks := ["screen"]) (v := l) (by have := last_ok (k := 1) (many := 0); simpa [lastKs] using this) (okDs_mem h l hlm)
      have s2 := m_is_event (ks := ["under", "over"]) (v := l) (by have := last_ok (k := 0) (many := 0); simpa [lastKs] using this) (okDs_mem h l hlm)
      simp only [List.map_cons, List.map_nil] at s1 s2
      have b1 : 1 ≤ xs.length := by omega
      have b2 : xs.length ≤ ws.length + 1 := by omega
      have e2 : gAll (.list ((xs.map fun d => D.bool (isEvent ["through"] d)).dropLast)) = pure (.bool (xs.dropLast.all (isEvent ["through"]))) := by
        rw [← List.map_dropLast, gAll_map]
      simp [cut_last, e1, e2]
      cases hall : xs.dropLast.all (isEvent ["through"]) with
      | false =>
        have hx : ¬ ∀ x ∈ xs.dropLast, isEvent ["through"] x = true := fun z => by
          rw [List.all_eq_true.mpr z] at hall
          cases hall
        rw [if_neg hx]
        simp only [isWord, hall, Bool.and_false, Bool.false_and]
      | true =>
        have hx : ∀ x ∈ xs.dropLast, isEvent ["through"] x = true := List.all_eq_true.mp hall
        rw [if_pos hx]
        simp [at_last hne, hl]
        by_cases hm : xs.length = ws.length + 1
        · have hm' : (xs.length : Int) = ws.length + 1 := by omega
          simp [hm', s1, isWord, hall, hl, b1, b2, lastKs, hm]
        · have hm' : ¬ (xs.length : Int) = ws.length + 1 := by omega
          simp [hm', s2, isWord, hall, hl, b1, b2, lastKs, hm]
    | _ => simp [isRow] at hr
end Z
end
section
set_option maxHeartbeats 4000000
namespace Z
open PySem PySem.Spec L2
/-- the kinds that the place i asks -/
def kindsAt (k many i : Nat) : List Str := if i + 1 = k then lastKs k many else ["through"]
theorem kinds_ok {k many i : Nat} : ∀ x ∈ kindsAt k many i, PyData.strOk x = true := by
  intro x hx
  unfold kindsAt at hx
  split at hx
  · exact last_ok x hx
  · exact through_ok x hx
def wordAll (k many : Nat) : Nat → List D → Bool
  | _, [] => true
  | i, x :: xs => isEvent (kindsAt k many i) x && wordAll k many (i + 1) xs
theorem wordAll_eq {many : Nat} : ∀ (xs : List D) (i : Nat), xs ≠ [] → wordAll (i + xs.length) many i xs = (xs.dropLast.all (isEvent ["through"]) && (match xs.getLast? with
    | some l => isEvent (lastKs (i + xs.length) many) l
    | none => false))
  | [], _, h => absurd rfl h
  | [x], i, _ => by simp [wordAll, kindsAt]
  | x :: y :: r, i, _ => by
    have e := wordAll_eq (many := many) (y :: r) (i + 1) (by simp)
    have l1 : i + (x :: y :: r).length = i + 1 + (y :: r).length := by simp only [List.length_cons]; omega
    rw [wordAll, l1, e]
    have k : kindsAt (i + 1 + (y :: r).length) many i = (["through"] : List Str) := by
      unfold kindsAt
      rw [if_neg (by simp only [List.length_cons]; omega)]
    rw [k]
    simp only [List.dropLast_cons₂, List.all_cons, List.getLast?_cons_cons, Bool.and_assoc]
theorem at_nat {xs : List D} {i : Nat} {d : D} (h : xs[i]? = some d) : atI xs (i : Nat) = some d := by
  have := (List.getElem?_eq_some_iff.mp h).1
  unfold atI ixN
  rw [if_pos (by omega), if_pos (by omega)]
  simpa using h
theorem wordAll_of {k many : Nat} : ∀ {xs : List D} {i : Nat}, (∀ j d, xs[j]? = some d → isEvent (kindsAt k many (i + j)) d = true) → wordAll k many i xs = true
  | [], _, _ => rfl
  | x :: xs, i, h => by
    rw [wordAll, Bool.and_eq_true]
    refine ⟨h 0 x rfl, wordAll_of fun j d hd => ?_⟩
    have := h (j + 1) d (by simpa using hd)
    rw [← Nat.add_assoc, Nat.add_right_comm] at this
    exact this
theorem wordAll_get {k many : Nat} : ∀ {xs : List D} {i j : Nat} {d : D}, wordAll k many i xs = true → xs[j]? = some d → isEvent (kindsAt k many (i + j)) d = true
  | [], _, _, _, _, hd => by simp at hd
  | x :: xs, i, 0, d, h, hd => by
    rw [wordAll, Bool.and_eq_true] at h
    simp at hd
    subst hd
    exact h.1
  | x :: xs, i, j + 1, d, h, hd => by
    rw [wordAll, Bool.and_eq_true] at h
    have := wordAll_get (i := i + 1) (j := j) h.2 (by simpa using hd)
    rw [Nat.add_right_comm] at this
    exact this
theorem word_eq {many : Nat} {xs : List D} (h1 : 1 ≤ xs.length) (h2 : xs.length ≤ many + 1) : isWord many (.tuple xs) = wordAll xs.length many 0 xs := by
  have hne : xs ≠ [] := fun z => by rw [z] at h1; simp at h1
  have := wordAll_eq (many := many) xs 0 hne
  rw [Nat.zero_add] at this
  rw [this]
  simp only [isWord, h1, h2, decide_true, Bool.true_and]
  all_goals (cases xs.getLast? <;> rfl)
end Z
end
section
set_option maxHeartbeats 4000000
namespace Z
open PySem PySem.Spec L2
/-! ### the bag of draws -/
def Bag (S : Store) (n : Nat) : Prop := ∃ ns : List Int, S[n]? = some (.lst (ns.map .int)) ∧ ns.length ≤ 1000
/-- the bag alone is written -/
def Upd (S : Store) (n : Nat) (S' : Store) : Prop := ∃ ns : List Int, S' = S.set n (.lst (ns.map .int)) ∧ ns.length ≤ 1000
theorem Upd.trans {S S1 S2 : Store} {n : Nat} (a : Upd S n S1) (b : Upd S1 n S2) : Upd S n S2 := by
  obtain ⟨ns, rfl, _⟩ := a
  obtain ⟨ms, rfl, h⟩ := b
  exact ⟨ms, by rw [List.set_set], h⟩
theorem Upd.len {S S1 : Store} {n : Nat} (a : Upd S n S1) : S1.length = S.length := by
  obtain ⟨ns, rfl, _⟩ := a
  simp
theorem Bag.lt {S : Store} {n : Nat} (b : Bag S n) : n < S.length := by
  obtain ⟨ns, e, _⟩ := b
  exact (List.getElem?_eq_some_iff.mp e).1
theorem Bag.upd {S S1 : Store} {n : Nat} (b : Bag S n) (a : Upd S n S1) : Bag S1 n := by
  have := b.lt
  obtain ⟨ns, rfl, h⟩ := a
  exact ⟨ns, by rw [List.getElem?_set_self this], h⟩
theorem Bag.self {S : Store} {n : Nat} (b : Bag S n) : Upd S n S := by
  have hl := b.lt
  obtain ⟨ns, e, h⟩ := b
  refine ⟨ns, ?_, h⟩
  obtain ⟨_, e⟩ := List.getElem?_eq_some_iff.mp e
  rw [← e, List.set_getElem_self]
theorem okDs_int {k : Nat} {ns : List Int} : okDs k (ns.map .int) = true := okDs_of fun x hx => by
  obtain ⟨i, _, rfl⟩ := List.mem_map.mp hx
  simp
theorem m_take {S : Store} {n : Nat} {m : Int} (b : Bag S n) (hm : 0 < m) : W (r__law_take [.cell n, .int m]) S (fun d S' => (∃ i : Int, d = .int i ∧ 0 ≤ i ∧ i < m) ∧ Upd S n S') NE := by
  obtain ⟨ns, e, hl⟩ := id b
  unfold r__law_take
  rw [W_fnT]
  have h0 : okD 64 (.list []) = true := by simp
  have h1 : okD 64 (.list (ns.map .int)) = true := by rw [okD_list]; exact okDs_int
  cases ns with
  | nil =>
    simp [b__law_take, N__law_take, W_rd e, gNe_ok h0 h0, eqD, eqDs, hm]
    exact b.self
  | cons x ns =>
    simp only [List.length_cons] at hl
    simp only [List.map_cons] at e h1
    simp [b__law_take, N__law_take, W_rd e, gNe_ok h1 h0, eqD, eqDs, W_pop0 e (by rw [List.length_map]; omega), hm]
    refine ⟨⟨Int.emod_nonneg _ (by omega), Int.emod_lt_of_pos _ hm⟩, ns, ?_, by omega⟩
    exact List.take_of_length_le (by simp)
theorem at_int {xs : List D} {i : Int} (h0 : 0 ≤ i) (h1 : i < xs.length) : ∃ d, atI xs i = some d ∧ d ∈ xs := by
  have hi : i.toNat < xs.length := by omega
  refine ⟨xs[i.toNat], ?_, List.getElem_mem hi⟩
  unfold atI ixN
  rw [if_pos h0, if_pos h1, Option.bind_some, List.getElem?_eq_getElem hi]
theorem m_choice {S : Store} {n : Nat} {xs : List D} (b : Bag S n) (hx : 0 < xs.length) (hf : fixDs xs = true) : W (r__law_choice [.cell n, .list xs]) S (fun d S' => d ∈ xs ∧ Upd S n S') NE := by
  unfold r__law_choice
  rw [W_fnT]
  simp [b__law_choice, N__law_choice]
  refine W_mono (m_take b (by omega)) (fun a S' ha => ?_)
  obtain ⟨⟨i, rfl, h0, h1⟩, hu⟩ := ha
  obtain ⟨d, hd, hm⟩ := at_int h0 h1
  simp [hd]
  have fd : fixD d = true := by
    have : ∀ xs : List D, fixDs xs = true → ∀ d ∈ xs, fixD d = true := by
      intro xs
      induction xs with
      | nil => intro _ d hd; simp at hd
      | cons x xs ih =>
        intro h d hd
        rw [fixDs, Bool.and_eq_true] at h
        rcases List.mem_cons.mp hd with rfl | hd
        · exact h.1
        · exact ih h.2 d hd
    exact this xs hf d hm
  rw [W_endT fd]
  exact ⟨hm, by rw [← hu.len, List.take_length]; exact hu⟩
end Z
end
section
set_option maxHeartbeats 4000000
namespace Z
open PySem PySem.Spec L2
/-! ### the script's draws -/
theorem at_map {ns : List Int} {i : Int} (h0 : 0 ≤ i) (h1 : i < ns.length) : ∃ c : Int, atI (ns.map D.int) i = some (.int c) := by
  obtain ⟨d, hd, hm⟩ := at_int (xs := ns.map .int) h0 (by simpa using h1)
  obtain ⟨c, _, rfl⟩ := List.mem_map.mp hm
  exact ⟨c, hd⟩
theorem m_cell {S : Store} {ns : List Int} {k : Nat} (hl : ns.length ≤ 63) (hk : k ≤ 100) : W (r__law_cell [script ns, .int (k : Nat)]) S (fun d S' => (∃ c : Int, d = .int c) ∧ S' = S) NE := by
  have s1 : small 7919 = true := by decide +kernel
  have s2 : small (k : Nat) = true := small_of (by have : (100 : Nat) < 2 ^ 1000 := by decide +kernel
                                                   omega)
  unfold r__law_cell
  rw [W_fnT]
  simp [b__law_cell, N__law_cell, script, s1, s2]
  by_cases h : k < ns.length
  · rw [if_pos h]
    obtain ⟨c, hc⟩ := at_map (ns := ns) (i := k) (by omega) (by omega)
    simp [hc]
  · rw [if_neg h]
    intro hne
    have hpos : 0 < ns.length := List.length_pos_iff.mpr hne
    refine ⟨hpos, ?_⟩
    obtain ⟨c, hc⟩ := at_map (ns := ns) (i := (k : Int) % (ns.length : Int)) (Int.emod_nonneg _ (by omega)) (Int.emod_lt_of_pos _ (by omega))
    simp [hc]
end Z
end
section
set_option maxHeartbeats 4000000
namespace Z
open PySem PySem.Spec L2
/-- bounded by a power of two -/
def Sm (k : Nat) (i : Int) : Prop := i.natAbs < 2 ^ k
theorem Sm.small {k : Nat} {i : Int} (h : Sm k i) (hk : k ≤ 4000 := by omega) : small i = true := by
  unfold Z.small
  rw [decide_eq_true_iff]
  exact Nat.lt_of_lt_of_le h (Nat.pow_le_pow_right (by omega) hk)
theorem Sm.mono {j k : Nat} {i : Int} (h : Sm j i) (hk : j ≤ k := by omega) : Sm k i := Nat.lt_of_lt_of_le h (Nat.pow_le_pow_right (by omega) hk)
theorem Sm.mul {j k : Nat} {a b : Int} (h : Sm j a) (h' : Sm k b) : Sm (j + k) (a * b) := by
  unfold Sm at *
  rw [Int.natAbs_mul, Nat.pow_add]
  exact Nat.mul_lt_mul'' h h'
theorem Sm.add {k : Nat} {a b : Int} (h : Sm k a) (h' : Sm k b) : Sm (k + 1) (a + b) := by
  unfold Sm at *
  have := Int.natAbs_add_le a b
  rw [Nat.pow_succ]
  omega
theorem Sm.sub {k : Nat} {a b : Int} (h : Sm k a) (h' : Sm k b) : Sm (k + 1) (a - b) := by
  unfold Sm at *
  have := Int.natAbs_sub_le a b
  rw [Nat.pow_succ]
  omega
theorem Sm.neg {k : Nat} {a : Int} (h : Sm k a) : Sm k (-a) := by
  unfold Sm at *
  omega
theorem Sm.of {i : Int} (k : Nat) {b : Nat} (h : i.natAbs ≤ b) (hb : b < 2 ^ k := by decide) : Sm k i := Nat.lt_of_le_of_lt h hb
def primes : List Int := [2147483647, 2147483629, 2147483587, 2147483579, 2147483563, 2147483549, 2147483543, 2147483497]
theorem prime_at {i : Int} (h0 : 0 ≤ i) (h1 : i < 8) : ∃ p : Int, atI (primes.map D.int) i = some (.int p) ∧ 0 < p ∧ p < 2147483648 := by
  obtain ⟨d, hd, hm⟩ := at_int (xs := primes.map .int) h0 (by simpa [primes] using h1)
  obtain ⟨c, hc, rfl⟩ := List.mem_map.mp hm
  refine ⟨c, hd, ?_⟩
  simp only [primes, List.mem_cons, List.not_mem_nil, or_false] at hc
  omega
theorem small_lt31 {i : Int} (h0 : -(10 ^ 30) ≤ i) (h1 : i ≤ 10 ^ 30) : small i = true := small_of (by
  have : (10 ^ 30 : Nat) < 2 ^ 1000 := by decide +kernel
  omega)
def drS0 : BS := (sSet 9 (e2 (g2 gMul) (e2 (g2 gMod) (eVar 5) (e2 (g2 gIx) (eVar 4) (e2 (g2 gMod) (eVar 8) (eC (.int 8))))) (e2 (g2 gAdd) (eC (.int 48271)) (e2 (g2 gMul) (e2 (g2 gMul) (eC (.int 2)) (eVar 8)) (eVar 8)))))
def drS1 : BS := (sSet 9 (e2 (g2 gAdd) (e2 (g2 gAdd) (eVar 9) (e2 (g2 gMul) (e2 (g2 gMul) (eC (.int 7919)) (e2 (g2 gAdd) (eVar 8) (eC (.int 1)))) (e2 (g2 gAdd) (eVar 8) (eC (.int 1))))) (e2 (g2 gMul) (eC (.int 104729)) (eVar 1))))
def drS2 : BS := (sSet 9 (e2 (g2 gMod) (eVar 9) (e2 (g2 gIx) (eVar 4) (e2 (g2 gMod) (e2 (g2 gAdd) (e2 (g2 gMul) (eC (.int 3)) (eVar 8)) (eVar 1)) (eC (.int 8))))))
def drS3 : BS := (sSet 9 (e2 (g2 gMod) (e2 (g2 gMul) (e2 (g2 gMul) (eVar 9) (eVar 9)) (eVar 9)) (e2 (g2 gIx) (eVar 4) (e2 (g2 gMod) (e2 (g2 gAdd) (eVar 8) (eC (.int 5))) (eC (.int 8))))))
def drS4 : BS := (sIf (tB1 (e2 (g2 gGt) (eVar 6) (eC (.int 0)))) (sSeq (sSet 9 (eVar 6)) sNil) sNil)
def drS5 : BS := (sExpr (eApp (eVar 7) (e2 (g2 gMod) (eVar 9) (eVar 3))))
def drS6 : BS := (sSet 6 (e2 (g2 gDiv) (eVar 6) (eVar 3)))
def drB : BS := (sSeq drS0 (sSeq drS1 (sSeq drS2 (sSeq drS3 (sSeq drS4 (sSeq drS5 (sSeq drS6 sNil)))))))
theorem dr_b (i : Nat) : b__law_draws i = (sSeq (sSet 4 (eTup (aCons (eC (.int 2147483647)) (aCons (eC (.int 2147483629)) (aCons (eC (.int 2147483587)) (aCons (eC (.int 2147483579)) (aCons (eC (.int 2147483563)) (aCons (eC (.int 2147483549)) (aCons (eC (.int 2147483543)) (aCons (eC (.int 2147483497)) aNil)))))))))) (sSeq (sSet 5 (eCall 2 r__law_cell (aCons (eVar 0) (aCons (eVar 1) aNil)))) (sSeq (sSet 6 (eC (.int 0))) (sSeq (sIf (tB1 (e2 (g2 gGe) (eVar 5) (e2 (g2 gPow) (eC (.int 10)) (eC (.int 18))))) (sSeq (sSet 6 (eVar 5)) sNil) sNil) (sSeq (sSet 7 (eCel aNil)) (sSeq (sFor (iRg (eVar 2)) (.name 8) drB) (sSeq (sRet (eVar 7)) sNil))))))) := rfl
theorem dr_s0 {S : Store} {T K M : D} {c rest : Int} {n j k : Nat} {ds : List Int} (hj : j ≤ 1000) (hk : k ≤ 100) {x9 : Option D} :
    WS drS0 [some T, some (.int (k : Nat)), some M, some (.int 27720), some (.tuple (primes.map .int)), some (.int c), some (.int rest), some (.cell n), some (.int (j : Nat)), x9] S (fun v S' => ∃ q' : Int, v = [some T, some (.int (k : Nat)), some M, some (.int 27720), some (.tuple (primes.map .int)), some (.int c), some (.int rest), some (.cell n), some (.int (j : Nat)), some (.int q')] ∧ S' = S) (fun _ _ => False) NE := by
  obtain ⟨p1, e1, a1, b1⟩ := prime_at (i := (j : Int) % 8) (by omega) (by omega)
  obtain ⟨p2, e2, a2, b2⟩ := prime_at (i := (3 * (j : Int) + k) % 8) (by omega) (by omega)
  obtain ⟨p3, e3, a3, b3⟩ := prime_at (i := ((j : Int) + 5) % 8) (by omega) (by omega)
  have sj : Sm 20 (j : Int) := .of 20 (b := 1000) (by omega)
  have s2 : small 2 = true := (Sm.of 20 (b := 1000) (by omega)).small
  have sjs : small (j : Int) = true := sj.small
  have s3 : small 3 = true := (Sm.of 20 (b := 1000) (by omega)).small
  have s4 : small 27720 = true := (Sm.of 20 (b := 100000) (by omega)).small
  have s5 : small (2 * (j : Int)) = true := (Sm.mul (.of 20 (b := 1000) (by omega)) sj).small
  have s6 : Sm 41 (2 * (j : Int) * (j : Int)) := (Sm.mul (Sm.of 20 (b := 2000) (by omega)) sj).mono
  have s7 : small (48271 + 2 * (j : Int) * (j : Int)) = true := (Sm.add (.of 41 (b := 100000) (by omega)) s6).small
  have s8 : small (c % p1) = true := by
    have h1 := Int.emod_nonneg c (show p1 ≠ 0 by omega)
    have h2 := Int.emod_lt_of_pos c a1
    exact (Sm.of 32 (b := 2147483648) (by omega)).small
  have s9 : small 7919 = true := (Sm.of 20 (b := 10000) (by omega)).small
  have s10 : small ((j : Int) + 1) = true := (Sm.of 20 (b := 1001) (by omega)).small
  have s11 : small (7919 * ((j : Int) + 1)) = true := (Sm.mul (.of 20 (b := 10000) (by omega)) (.of 20 (b := 1001) (by omega))).small
  have s12 : small 104729 = true := (Sm.of 20 (b := 104729) (by omega)).small
  have s13 : small (k : Int) = true := (Sm.of 20 (b := 1000) (by omega)).small
  have hq : ∀ q : Int, Sm 32 (q % p2) := fun q => by
    have h1 := Int.emod_nonneg q (show p2 ≠ 0 by omega)
    have h2 := Int.emod_lt_of_pos q a2
    exact .of 32 (b := 2147483648) (by omega)
  simp [drS0, e1, e2, e3, a1, a2, a3, s2, sjs, s3, s4, s5, s7, s8, s9, s10, s11, s12, s13]
theorem dr_s1 {S : Store} {T K M : D} {c rest : Int} {n j k : Nat} {ds : List Int} (hj : j ≤ 1000) (hk : k ≤ 100) {q : Int} :
    WS drS1 [some T, some (.int (k : Nat)), some M, some (.int 27720), some (.tuple (primes.map .int)), some (.int c), some (.int rest), some (.cell n), some (.int (j : Nat)), some (.int q)] S (fun v S' => ∃ q' : Int, v = [some T, some (.int (k : Nat)), some M, some (.int 27720), some (.tuple (primes.map .int)), some (.int c), some (.int rest), some (.cell n), some (.int (j : Nat)), some (.int q')] ∧ S' = S) (fun _ _ => False) NE := by
  obtain ⟨p1, e1, a1, b1⟩ := prime_at (i := (j : Int) % 8) (by omega) (by omega)
  obtain ⟨p2, e2, a2, b2⟩ := prime_at (i := (3 * (j : Int) + k) % 8) (by omega) (by omega)
  obtain ⟨p3, e3, a3, b3⟩ := prime_at (i := ((j : Int) + 5) % 8) (by omega) (by omega)
  have sj : Sm 20 (j : Int) := .of 20 (b := 1000) (by omega)
  have s2 : small 2 = true := (Sm.of 20 (b := 1000) (by omega)).small
  have sjs : small (j : Int) = true := sj.small
  have s3 : small 3 = true := (Sm.of 20 (b := 1000) (by omega)).small
  have s4 : small 27720 = true := (Sm.of 20 (b := 100000) (by omega)).small
  have s5 : small (2 * (j : Int)) = true := (Sm.mul (.of 20 (b := 1000) (by omega)) sj).small
  have s6 : Sm 41 (2 * (j : Int) * (j : Int)) := (Sm.mul (Sm.of 20 (b := 2000) (by omega)) sj).mono
  have s7 : small (48271 + 2 * (j : Int) * (j : Int)) = true := (Sm.add (.of 41 (b := 100000) (by omega)) s6).small
  have s8 : small (c % p1) = true := by
    have h1 := Int.emod_nonneg c (show p1 ≠ 0 by omega)
    have h2 := Int.emod_lt_of_pos c a1
    exact (Sm.of 32 (b := 2147483648) (by omega)).small
  have s9 : small 7919 = true := (Sm.of 20 (b := 10000) (by omega)).small
  have s10 : small ((j : Int) + 1) = true := (Sm.of 20 (b := 1001) (by omega)).small
  have s11 : small (7919 * ((j : Int) + 1)) = true := (Sm.mul (.of 20 (b := 10000) (by omega)) (.of 20 (b := 1001) (by omega))).small
  have s12 : small 104729 = true := (Sm.of 20 (b := 104729) (by omega)).small
  have s13 : small (k : Int) = true := (Sm.of 20 (b := 1000) (by omega)).small
  have hq : ∀ q : Int, Sm 32 (q % p2) := fun q => by
    have h1 := Int.emod_nonneg q (show p2 ≠ 0 by omega)
    have h2 := Int.emod_lt_of_pos q a2
    exact .of 32 (b := 2147483648) (by omega)
  simp [drS1, e1, e2, e3, a1, a2, a3, s2, sjs, s3, s4, s5, s7, s8, s9, s10, s11, s12, s13]
theorem dr_s2 {S : Store} {T K M : D} {c rest : Int} {n j k : Nat} {ds : List Int} (hj : j ≤ 1000) (hk : k ≤ 100) {q : Int} :
    WS drS2 [some T, some (.int (k : Nat)), some M, some (.int 27720), some (.tuple (primes.map .int)), some (.int c), some (.int rest), some (.cell n), some (.int (j : Nat)), some (.int q)] S (fun v S' => ∃ q' : Int, v = [some T, some (.int (k : Nat)), some M, some (.int 27720), some (.tuple (primes.map .int)), some (.int c), some (.int rest), some (.cell n), some (.int (j : Nat)), some (.int q')] ∧ S' = S ∧ Sm 32 q') (fun _ _ => False) NE := by
  obtain ⟨p1, e1, a1, b1⟩ := prime_at (i := (j : Int) % 8) (by omega) (by omega)
  obtain ⟨p2, e2, a2, b2⟩ := prime_at (i := (3 * (j : Int) + k) % 8) (by omega) (by omega)
  obtain ⟨p3, e3, a3, b3⟩ := prime_at (i := ((j : Int) + 5) % 8) (by omega) (by omega)
  have sj : Sm 20 (j : Int) := .of 20 (b := 1000) (by omega)
  have s2 : small 2 = true := (Sm.of 20 (b := 1000) (by omega)).small
  have sjs : small (j : Int) = true := sj.small
  have s3 : small 3 = true := (Sm.of 20 (b := 1000) (by omega)).small
  have s4 : small 27720 = true := (Sm.of 20 (b := 100000) (by omega)).small
  have s5 : small (2 * (j : Int)) = true := (Sm.mul (.of 20 (b := 1000) (by omega)) sj).small
  have s6 : Sm 41 (2 * (j : Int) * (j : Int)) := (Sm.mul (Sm.of 20 (b := 2000) (by omega)) sj).mono
  have s7 : small (48271 + 2 * (j : Int) * (j : Int)) = true := (Sm.add (.of 41 (b := 100000) (by omega)) s6).small
  have s8 : small (c % p1) = true := by
    have h1 := Int.emod_nonneg c (show p1 ≠ 0 by omega)
    have h2 := Int.emod_lt_of_pos c a1
    exact (Sm.of 32 (b := 2147483648) (by omega)).small
  have s9 : small 7919 = true := (Sm.of 20 (b := 10000) (by omega)).small
  have s10 : small ((j : Int) + 1) = true := (Sm.of 20 (b := 1001) (by omega)).small
  have s11 : small (7919 * ((j : Int) + 1)) = true := (Sm.mul (.of 20 (b := 10000) (by omega)) (.of 20 (b := 1001) (by omega))).small
  have s12 : small 104729 = true := (Sm.of 20 (b := 104729) (by omega)).small
  have s13 : small (k : Int) = true := (Sm.of 20 (b := 1000) (by omega)).small
  have hq : ∀ q : Int, Sm 32 (q % p2) := fun q => by
    have h1 := Int.emod_nonneg q (show p2 ≠ 0 by omega)
    have h2 := Int.emod_lt_of_pos q a2
    exact .of 32 (b := 2147483648) (by omega)
  simp [drS2, e1, e2, e3, a1, a2, a3, s2, sjs, s3, s4, s5, s7, s8, s9, s10, s11, s12, s13]
  exact hq _
theorem dr_s3 {S : Store} {T K M : D} {c rest : Int} {n j k : Nat} {ds : List Int} (hj : j ≤ 1000) (hk : k ≤ 100) {q : Int} (hq0 : Sm 32 q) :
    WS drS3 [some T, some (.int (k : Nat)), some M, some (.int 27720), some (.tuple (primes.map .int)), some (.int c), some (.int rest), some (.cell n), some (.int (j : Nat)), some (.int q)] S (fun v S' => ∃ q' : Int, v = [some T, some (.int (k : Nat)), some M, some (.int 27720), some (.tuple (primes.map .int)), some (.int c), some (.int rest), some (.cell n), some (.int (j : Nat)), some (.int q')] ∧ S' = S) (fun _ _ => False) NE := by
  obtain ⟨p1, e1, a1, b1⟩ := prime_at (i := (j : Int) % 8) (by omega) (by omega)
  obtain ⟨p2, e2, a2, b2⟩ := prime_at (i := (3 * (j : Int) + k) % 8) (by omega) (by omega)
  obtain ⟨p3, e3, a3, b3⟩ := prime_at (i := ((j : Int) + 5) % 8) (by omega) (by omega)
  have sj : Sm 20 (j : Int) := .of 20 (b := 1000) (by omega)
  have s2 : small 2 = true := (Sm.of 20 (b := 1000) (by omega)).small
  have sjs : small (j : Int) = true := sj.small
  have s3 : small 3 = true := (Sm.of 20 (b := 1000) (by omega)).small
  have s4 : small 27720 = true := (Sm.of 20 (b := 100000) (by omega)).small
  have s5 : small (2 * (j : Int)) = true := (Sm.mul (.of 20 (b := 1000) (by omega)) sj).small
  have s6 : Sm 41 (2 * (j : Int) * (j : Int)) := (Sm.mul (Sm.of 20 (b := 2000) (by omega)) sj).mono
  have s7 : small (48271 + 2 * (j : Int) * (j : Int)) = true := (Sm.add (.of 41 (b := 100000) (by omega)) s6).small
  have s8 : small (c % p1) = true := by
    have h1 := Int.emod_nonneg c (show p1 ≠ 0 by omega)
    have h2 := Int.emod_lt_of_pos c a1
    exact (Sm.of 32 (b := 2147483648) (by omega)).small
  have s9 : small 7919 = true := (Sm.of 20 (b := 10000) (by omega)).small
  have s10 : small ((j : Int) + 1) = true := (Sm.of 20 (b := 1001) (by omega)).small
  have s11 : small (7919 * ((j : Int) + 1)) = true := (Sm.mul (.of 20 (b := 10000) (by omega)) (.of 20 (b := 1001) (by omega))).small
  have s12 : small 104729 = true := (Sm.of 20 (b := 104729) (by omega)).small
  have s13 : small (k : Int) = true := (Sm.of 20 (b := 1000) (by omega)).small
  have hq : ∀ q : Int, Sm 32 (q % p2) := fun q => by
    have h1 := Int.emod_nonneg q (show p2 ≠ 0 by omega)
    have h2 := Int.emod_lt_of_pos q a2
    exact .of 32 (b := 2147483648) (by omega)
  simp [drS3, e1, e2, e3, a1, a2, a3, s2, sjs, s3, s4, s5, s7, s8, s9, s10, s11, s12, s13, hq0.small, (hq0.mul hq0).small]
theorem dr_body {S : Store} {T K M : D} {c rest : Int} {n j k : Nat} {ds : List Int} {x9 : Option D} (hn : S[n]? = some (.lst (ds.map .int))) (hl : ds.length ≤ 1000) (hj : j ≤ 1000) (hk : k ≤ 100) :
    WS drB [some T, some (.int (k : Nat)), some M, some (.int 27720), some (.tuple (primes.map .int)), some (.int c), some (.int rest), some (.cell n), some (.int (j : Nat)), x9] S
      (fun v S' => ∃ (r' y : Int) (z9 : Option D), v = [some T, some (.int (k : Nat)), some M, some (.int 27720), some (.tuple (primes.map .int)), some (.int c), some (.int r'), some (.cell n), some (.int (j : Nat)), z9] ∧ S' = S.set n (.lst ((ds ++ [y]).map .int))) (fun _ _ => False) NE := by
  unfold drB
  rw [WS_seq]
  refine WS_mono (dr_s0 (K := K) (ds := ds) hj hk) (fun v S' hv => ?_) fun _ _ h => h
  obtain ⟨q0, rfl, rfl⟩ := hv
  rw [WS_seq]
  refine WS_mono (dr_s1 (K := K) (ds := ds) hj hk) (fun v S' hv => ?_) fun _ _ h => h
  obtain ⟨q1, rfl, rfl⟩ := hv
  rw [WS_seq]
  refine WS_mono (dr_s2 (K := K) (ds := ds) hj hk) (fun v S' hv => ?_) fun _ _ h => h
  obtain ⟨q2, rfl, rfl, hq⟩ := hv
  rw [WS_seq]
  refine WS_mono (dr_s3 (K := K) (ds := ds) hj hk hq) (fun v S' hv => ?_) fun _ _ h => h
  obtain ⟨q3, rfl, rfl⟩ := hv
  have s4 : small 27720 = true := (Sm.of 20 (b := 100000) (by omega)).small
  have key : ∀ (q : Int), WS (sSeq drS5 (sSeq drS6 sNil)) [some T, some (.int (k : Nat)), some M, some (.int 27720), some (.tuple (primes.map .int)), some (.int c), some (.int rest), some (.cell n), some (.int (j : Nat)), some (.int q)] S'
      (fun v S'' => ∃ (r' y : Int) (z9 : Option D), v = [some T, some (.int (k : Nat)), some M, some (.int 27720), some (.tuple (primes.map .int)), some (.int c), some (.int r'), some (.cell n), some (.int (j : Nat)), z9] ∧ S'' = S'.set n (.lst ((ds ++ [y]).map .int))) (fun _ _ => False) NE := fun q => by
    simp [drS5, drS6, s4]
    rw [W_push hn rfl (by rw [List.length_map]; omega)]
    exact ⟨q % 27720, by simp⟩
  by_cases hr : 0 < rest
  · simpa [drS4, hr] using key rest
  · simpa [drS4, hr] using key q3
/-- the bag of a turn -/
theorem m_draws {S : Store} {ns : List Int} {k : Nat} (hl : ns.length ≤ 63) (hk : k ≤ 100) : W (r__law_draws [script ns, .int (k : Nat), .int 150, .int 27720]) S (fun d S' => d = .cell S.length ∧ ∃ ds : List Int, S' = S ++ [.lst (ds.map .int)] ∧ ds.length ≤ 1000) NE := by
  unfold r__law_draws
  rw [W_fnF, dr_b]
  have h18 : gPow (.int 10) (.int 18) = pure (.int 1000000000000000000) := by
    unfold gPow
    dsimp only
    rw [if_pos (by decide)]
    rfl
  simp [N__law_draws, h18, -WS_for]
  refine W_mono (m_cell hl hk) (fun a S1 ha => ?_)
  obtain ⟨⟨c, rfl⟩, rfl⟩ := ha
  simp [-WS_for]
  have key : ∀ (rest : Int), WS (sFor (iRg (eVar 2)) (.name 8) drB) [some (script ns), some (.int (k : Nat)), some (.int 150), some (.int 27720), some (.tuple (primes.map .int)), some (.int c), some (.int rest), some (.cell S1.length), none, none] (S1 ++ [.lst []])
      (fun v S' => ∃ ds : List Int, v[7]?.getD none = some (.cell S1.length) ∧ S' = S1 ++ [.lst (ds.map .int)] ∧ ds.length ≤ 1000) (fun _ _ => False) NE := fun rest => by
    rw [WS_for]
    have e : iRg (eVar 2) [some (script ns), some (.int (k : Nat)), some (.int 150), some (.int 27720), some (.tuple (primes.map .int)), some (.int c), some (.int rest), some (.cell S1.length), none, none] = pure ⟨rangeDs 0 150, fun _ => true⟩ := toRng_n (n := 150) (by omega)
    rw [e, W_pure]
    refine WSF_inv (fun i v S' => ∃ (ds : List Int) (r : Int) (y8 y9 : Option D), v = [some (script ns), some (.int (k : Nat)), some (.int 150), some (.int 27720), some (.tuple (primes.map .int)), some (.int c), some (.int r), some (.cell S1.length), y8, y9] ∧ S' = S1 ++ [.lst (ds.map .int)] ∧ ds.length = i) (fun _ => rfl) (rangeDs 0 150) 0 _ _ (fun i d env S2 hd hinv => ?_) ⟨[], rest, none, none, rfl, rfl, rfl⟩ (fun v S2 hv => ?_)
    · obtain ⟨hi, rfl⟩ := range_at hd
      obtain ⟨ds, r, y8, y9, rfl, rfl, hlen⟩ := hinv
      have e7 : (S1 ++ [Cell.lst (ds.map D.int)])[S1.length]? = some (.lst (ds.map .int)) := by simp
      refine ⟨_, rfl, WS_mono (dr_body (K := .none) (ds := ds) e7 (by omega) (by omega) hk) (fun v S3 hv => ?_) fun _ _ h => h.elim⟩
      obtain ⟨r', y, z9, rfl, rfl⟩ := hv
      exact ⟨ds ++ [y], r', _, z9, rfl, by simp, by simp; omega⟩
    · obtain ⟨ds, r, y8, y9, rfl, rfl, hlen⟩ := hv
      rw [rangeDs_len] at hlen
      exact ⟨ds, rfl, rfl, by omega⟩
  have key2 : ∀ (rest : Int), WS (sFor (iRg (eVar 2)) (.name 8) drB) [some (script ns), some (.int (k : Nat)), some (.int 150), some (.int 27720), some (.tuple (primes.map .int)), some (.int c), some (.int rest), some (.cell S1.length), none, none] (S1 ++ [.lst []])
      (fun v S' => W (ofO (v[7]?.getD none)) S' (fun d S' => d = .cell S1.length ∧ ∃ ds : List Int, S' = S1 ++ [.lst (ds.map .int)] ∧ ds.length ≤ 1000) NE) (fun d S' => d = .cell S1.length ∧ ∃ ds : List Int, S' = S1 ++ [.lst (ds.map .int)] ∧ ds.length ≤ 1000) NE := fun rest => by
    refine WS_mono (key rest) (fun v S' hv => ?_) fun _ _ h => h.elim
    obtain ⟨ds, e, h1, h2⟩ := hv
    rw [e]
    exact ⟨rfl, ds, h1, h2⟩
  by_cases hc : 1000000000000000000 ≤ c
  · simp [hc, -WS_for]
    rw [W_new rfl]
    simpa [-WS_for, primes] using key2 c
  · simp [hc, -WS_for]
    rw [W_new rfl]
    simpa [-WS_for, primes] using key2 0
end Z
end
section
set_option maxHeartbeats 4000000
namespace Z
open PySem PySem.Spec L2
def hallB1 : BS := (sSeq (sSet 7 (e2 (g2 gAdd) (eC (.int 1)) (eCall 2 r__law_take (aCons (eVar 0) (aCons (eCB (c2 gMax2) (aCons (eC (.int 1)) (aCons (e2 (g2 gSub) (eVar 3) (eC (.int 1))) aNil))) aNil))))) (sSeq (sIf (bAnd (tB1 (e2 (g2 (gIn true)) (eVar 7) (eVar 4))) (tB1 (e2 (g2 gLt) (eVar 7) (eVar 3)))) (sSeq (sExpr (eApp (eVar 4) (eVar 7))) sNil) sNil) sNil))
def hallB2 : BS := (sSeq (sSet 8 (eCall 2 r__law_take (aCons (eVar 0) (aCons (e2 (g2 gAdd) (eVar 2) (eC (.int 1))) aNil)))) (sSeq (sExpr (eApp (eVar 5) (eTup (aCons (eVar 7) (aCons (eVar 8) (aCons (e2 (g2 gAdd) (eVar 8) (eCall 2 r__law_take (aCons (eVar 0) (aCons (e2 (g2 gAdd) (eCB (c2 gMin2) (aCons (e2 (g2 gSub) (eVar 2) (eVar 8)) (aCons (e2 (g2 gAdd) (eC (.int 2)) (e2 (g2 gDiv) (eVar 2) (eC (.int 2)))) aNil))) (eC (.int 1))) aNil)))) aNil)))))) sNil))
theorem hall_b (i : Nat) : b__law_hall i = (sSeq (sSet 2 (eCall 2 r__law_choice (aCons (eVar 0) (aCons (eLst (aCons (eC (.int 3)) (aCons (eC (.int 6)) (aCons (eC (.int 10)) (aCons (eC (.int 10)) (aCons (eC (.int 12)) (aCons (eC (.int 60)) aNil))))))) aNil)))) (sSeq (sSet 3 (e2 (g2 gSub) (eVar 2) (eCall 2 r__law_take (aCons (eVar 0) (aCons (eCB (c2 gMax2) (aCons (eC (.int 1)) (aCons (e2 (g2 gDiv) (eVar 2) (eC (.int 3))) aNil))) aNil))))) (sSeq (sPar 4 5 (eCel aNil) (eCel aNil)) (sSeq (sFor (iRg (eCall 2 r__law_take (aCons (eVar 0) (aCons (e2 (g2 gAdd) (eVar 1) (eC (.int 1))) aNil)))) (.name 6) hallB1) (sSeq (sFor (iSeq (eCB (c1 gSorted) (aCons (eVar 4) aNil))) (.name 7) hallB2) (sSeq (sRet (eTup (aCons (eVar 2) (aCons (eCB (c1 gTuple) (aCons (eVar 5) aNil)) (aCons (eVar 3) aNil))))) sNil)))))) := rfl
theorem Upd.app {S S' X : Store} {n : Nat} (hn : n < S.length) (h : Upd (S ++ X) n S') : ∃ T, Upd S n T ∧ S' = T ++ X := by
  obtain ⟨ns, rfl, hl⟩ := h
  exact ⟨S.set n (.lst (ns.map .int)), ⟨ns, rfl, hl⟩, by rw [List.set_append_left _ _ hn]⟩
theorem Bag.app {S X : Store} {n : Nat} (b : Bag S n) : Bag (S ++ X) n := by
  have hn := b.lt
  obtain ⟨ns, e, hl⟩ := b
  exact ⟨ns, by rw [List.getElem?_append_left hn]; exact e, hl⟩
theorem any_int {ps : List Int} {p : Int} : (ps.map D.int).any (fun z => eqD z (.int p)) = decide (p ∈ ps) := by
  induction ps with
  | nil => rfl
  | cons k ks ih =>
    rw [List.map_cons, List.any_cons, ih]
    simp only [eqD, List.mem_cons]
    by_cases h : k = p
    · simp [h]
    · have h' : ¬ p = k := fun z => h z.symm
      simp [h, h']
theorem gIn_int {ps : List Int} {p : Int} {neg : Bool} : gIn neg (.int p) (.list (ps.map .int)) = pure (.bool (neg ^^ decide (p ∈ ps))) := by
  unfold gIn
  dsimp only
  rw [if_pos ⟨by simp, okDs_int⟩, any_int]
theorem two_at {T : Store} {A B : Cell} {L : Nat} (h : T.length = L) : (T ++ [A, B])[L]? = some A ∧ (T ++ [A, B])[L + 1]? = some B ∧ (∀ C, (T ++ [A, B]).set L C = T ++ [C, B]) ∧ ∀ C, (T ++ [A, B]).set (L + 1) C = T ++ [A, C] := by
  subst h
  refine ⟨?_, ?_, fun C => ?_, fun C => ?_⟩
  · rw [List.getElem?_append_right (by omega)]; simp
  · rw [List.getElem?_append_right (by omega)]; simp
  · rw [List.set_append_right _ _ (by omega)]; simp
  · rw [List.set_append_right _ _ (by omega)]; simp
theorem hall_1 {T : Store} {n L : Nat} {hh e : Int} {M : D} {x6 x7 x8 : Option D} {ps : List Int} (b : Bag T n) (hL : T.length = L) (hlen : ps.length ≤ 100) (hnd : ps.Nodup) (hp : ∀ p ∈ ps, 1 ≤ p ∧ p ≤ e - 1) :
    WS hallB1 [some (.cell n), some M, some (.int hh), some (.int e), some (.cell L), some (.cell (L + 1)), x6, x7, x8] (T ++ [.lst (ps.map .int), .lst []])
      (fun v S' => ∃ (T' : Store) (ps' : List Int) (y7 : Option D), Upd T n T' ∧ S' = T' ++ [.lst (ps'.map .int), .lst []] ∧ v = [some (.cell n), some M, some (.int hh), some (.int e), some (.cell L), some (.cell (L + 1)), x6, y7, x8] ∧ ps'.Nodup ∧ (∀ p ∈ ps', 1 ≤ p ∧ p ≤ e - 1) ∧ ps'.length ≤ ps.length + 1) (fun _ _ => False) NE := by
  simp [hallB1]
  refine W_mono (m_take b.app (by split <;> omega)) (fun a S' ha => ?_)
  obtain ⟨⟨i, rfl, h0, h1⟩, hu⟩ := ha
  obtain ⟨T', hu', rfl⟩ := hu.app b.lt
  have hL' : T'.length = L := by rw [hu'.len]; exact hL
  obtain ⟨e1, e2, s1, s2⟩ := two_at (A := .lst (ps.map .int)) (B := .lst []) hL'
  simp [W_rd e1, gIn_int]
  by_cases hm : 1 + i ∈ ps
  · simp [hm]
    exact ⟨T', hu', ps, rfl, hnd, fun p hp' => by have := hp p hp'; omega, by omega⟩
  · by_cases hlt : 1 + i < e
    · simp [hm, hlt]
      rw [W_push e1 rfl (by rw [List.length_map]; omega), s1]
      refine ⟨T', hu', ps ++ [1 + i], by simp, ?_, fun p hp' => ?_, by simp⟩
      · rw [List.nodup_append]
        refine ⟨hnd, by simp, fun a ha c hc => ?_⟩
        simp at hc
        subst hc
        exact fun z => hm (z ▸ ha)
      · rcases List.mem_append.mp hp' with hp' | hp'
        · exact hp p hp'
        · simp at hp'
          omega
    · simp [hm, hlt]
      exact ⟨T', hu', ps, rfl, hnd, fun p hp' => by have := hp p hp'; omega, by omega⟩
theorem hall_2 {T : Store} {n L : Nat} {hh e p : Int} {M : D} {A : Cell} {x6 x8 : Option D} {ms : List D} (b : Bag T n) (hL : T.length = L) (hlen : ms.length ≤ 100) (h3 : 0 ≤ hh) (hp : 1 ≤ p ∧ p ≤ e - 1) :
    WS hallB2 [some (.cell n), some M, some (.int hh), some (.int e), some (.cell L), some (.cell (L + 1)), x6, some (.int p), x8] (T ++ [A, .lst ms])
      (fun v S' => ∃ (T' : Store) (lo to : Int) (y8 : Option D), Upd T n T' ∧ S' = T' ++ [A, .lst (ms ++ [.tuple [.int p, .int lo, .int to]])] ∧ v = [some (.cell n), some M, some (.int hh), some (.int e), some (.cell L), some (.cell (L + 1)), x6, some (.int p), y8] ∧ 0 ≤ lo ∧ lo ≤ to ∧ to ≤ hh) (fun _ _ => False) NE := by
  have s2 : small 2 = true := (Sm.of 20 (b := 1000) (by omega)).small
  simp [hallB2, s2]
  refine W_mono (m_take b.app (by omega)) (fun a S' ha => ?_)
  obtain ⟨⟨i, rfl, h0, h1⟩, hu⟩ := ha
  obtain ⟨T1, hu1, rfl⟩ := hu.app b.lt
  simp
  refine W_mono (m_take (b.upd hu1).app (by split <;> omega)) (fun a S' ha => ?_)
  obtain ⟨⟨j, rfl, g0, g1⟩, hu⟩ := ha
  obtain ⟨T2, hu2, rfl⟩ := hu.app (b.upd hu1).lt
  have hL' : T2.length = L := by rw [hu2.len, hu1.len]; exact hL
  obtain ⟨e1, e2, s1, s2⟩ := two_at (A := A) (B := .lst ms) hL'
  simp
  rw [W_push e2 rfl (by omega), s2]
  refine ⟨T2, hu1.trans hu2, i, i + j, rfl, h0, by omega, ?_⟩
  split at g1 <;> omega
theorem incr_of : ∀ {ms : List D}, (ms.map fst0).Pairwise (· < ·) → incr ms = true
  | [], _ => rfl
  | [a], _ => rfl
  | a :: b :: r, h => by
    simp only [List.map_cons, List.pairwise_cons] at h
    rw [incr, Bool.and_eq_true]
    exact ⟨by simpa using h.1 (fst0 b) (by simp), incr_of (by simpa using h.2)⟩
theorem sortI_lt {ps : List Int} (h : ps.Nodup) : (sortI ps).Pairwise (· < ·) := by
  have h1 := sortI_sorted ps
  have h2 : (sortI ps).Nodup := (sortI_perm ps).nodup_iff.mpr h
  have := h1.and h2
  exact this.imp fun ⟨a, b⟩ => by omega
theorem intsD_map {ns : List Int} : intsD (ns.map .int) = some ns := by
  induction ns with
  | nil => rfl
  | cons n ns ih => rw [List.map_cons, intsD, ih]; rfl
theorem gSorted_i {ns : List Int} : gSorted (.list (ns.map .int)) = pure (.list ((sortI ns).map .int)) := by
  unfold gSorted
  dsimp only
  rw [intsD_map]
  rfl
/-- what a drawn hall is -/
def DHall (d : D) (m : Int) : Prop := isHall d = true ∧ ∃ (hh e : Int) (ws : List D), d = .tuple [.int hh, .tuple ws, .int e] ∧ (hh = 3 ∨ hh = 6 ∨ hh = 10 ∨ hh = 12 ∨ hh = 60) ∧ 3 ≤ e ∧ e ≤ hh ∧ ws.length ≤ m
theorem m_hall {S : Store} {n : Nat} {m : Int} (b : Bag S n) (h0 : 0 ≤ m) (h3 : m ≤ 3) : W (r__law_hall [.cell n, .int m]) S (fun d S' => DHall d m ∧ Upd S n S') NE := by
  unfold r__law_hall
  rw [W_fnT, hall_b]
  have s3 : small 3 = true := (Sm.of 20 (b := 1000) (by omega)).small
  simp [N__law_hall, s3]
  refine W_mono (m_choice (xs := [.int 3, .int 6, .int 10, .int 10, .int 12, .int 60]) b (by decide) rfl) (fun a S1 ha => ?_)
  obtain ⟨ha, hu1⟩ := ha
  have hh : ∃ h : Int, a = .int h ∧ (h = 3 ∨ h = 6 ∨ h = 10 ∨ h = 12 ∨ h = 60) := by
    simp at ha
    rcases ha with rfl | rfl | rfl | rfl | rfl <;> exact ⟨_, rfl, by omega⟩
  obtain ⟨h, rfl, hv⟩ := hh
  simp
  have b1 := b.upd hu1
  refine ⟨s3, ?_⟩
  refine W_mono (m_take b1 ?m) (fun a S2 ha => ?_)
  case m => split <;> omega
  obtain ⟨⟨i, rfl, i0, i1⟩, hu2⟩ := ha
  have he : 3 ≤ h - i ∧ h - i ≤ h := by
    split at i1 <;> omega
  have b2 := b1.upd hu2
  simp
  generalize h - i = e at he ⊢
  rw [W_new rfl, W_new rfl]
  have hL : S2.length = S.length := by rw [hu2.len, hu1.len]
  simp [hL]
  refine W_mono (m_take b2.app (by omega)) (fun a S3 ha => ?_)
  obtain ⟨⟨k, rfl, k0, k1⟩, hu⟩ := ha
  obtain ⟨T, hu3, rfl⟩ := hu.app b2.lt
  have uT : Upd S n T := hu1.trans (hu2.trans hu3)
  have lT : T.length = S.length := uT.len
  have bT : Bag T n := b.upd uT
  clear hu hu1 hu2 hu3 b1 b2 i0 i1 ha
  obtain ⟨k, rfl⟩ : ∃ k' : Nat, k = k' := ⟨k.toNat, by omega⟩
  rw [toRng_n (by omega), W_pure]
  dsimp only
  refine WSF_inv (fun i v S' => ∃ (T' : Store) (ps : List Int) (y6 y7 : Option D), v = [some (.cell n), some (.int m), some (.int h), some (.int e), some (.cell S.length), some (.cell (S.length + 1)), y6, y7, none] ∧ S' = T' ++ [.lst (ps.map .int), .lst []] ∧ Upd S n T' ∧ ps.Nodup ∧ (∀ p ∈ ps, 1 ≤ p ∧ p ≤ e - 1) ∧ ps.length ≤ i) (fun _ => rfl) (rangeDs 0 k) 0 _ _ (fun i d env S3 hd hinv => ?_) ⟨T, [], none, none, rfl, rfl, uT, List.nodup_nil, by simp, by simp⟩ (fun v S3 hv => ?_)
  · obtain ⟨hi, rfl⟩ := range_at hd
    obtain ⟨T', ps, y6, y7, rfl, rfl, hu, hnd, hp, hlen⟩ := hinv
    refine ⟨_, rfl, WS_mono (hall_1 (M := .int m) (b.upd hu) hu.len (by omega) hnd hp) (fun v S4 hv => ?_) fun _ _ h => h.elim⟩
    obtain ⟨T2, ps2, y7', hu2, rfl, rfl, h1, h2, h3⟩ := hv
    exact ⟨T2, ps2, _, y7', rfl, rfl, hu.trans hu2, h1, h2, by omega⟩
  · obtain ⟨T', ps, y6, y7, rfl, rfl, hu, hnd, hp, hlen⟩ := hv
    rw [rangeDs_len] at hlen
    obtain ⟨e1, e2, s1, s2⟩ := two_at (A := .lst (ps.map .int)) (B := .lst []) hu.len
    simp [W_rd e1, gSorted_i]
    have pm : (sortI ps).length = ps.length := (sortI_perm ps).length_eq
    refine WSF_inv (fun i v S' => ∃ (T' : Store) (ms : List D) (y6 y7 y8 : Option D), v = [some (.cell n), some (.int m), some (.int h), some (.int e), some (.cell S.length), some (.cell (S.length + 1)), y6, y7, y8] ∧ S' = T' ++ [.lst (ps.map .int), .lst ms] ∧ Upd S n T' ∧ ms.map fst0 = (sortI ps).take i ∧ (∀ w ∈ ms, isWall h e w = true) ∧ ms.length = i) (fun _ => rfl) ((sortI ps).map .int) 0 _ _ (fun i d env S3 hd hinv => ?_) ⟨T', [], _, _, _, rfl, rfl, hu, rfl, by simp, by simp⟩ (fun v S3 hv => ?_)
    · rw [List.getElem?_map] at hd
      obtain ⟨p, hpi, rfl⟩ := Option.map_eq_some_iff.mp hd
      have hil := (List.getElem?_eq_some_iff.mp hpi).1
      obtain ⟨T1, ms, z6, z7, z8, rfl, rfl, hu1, hm1, hm2, hm3⟩ := hinv
      have pp := hp p ((sortI_perm ps).mem_iff.mp (List.mem_of_getElem? hpi))
      refine ⟨_, rfl, WS_mono (hall_2 (M := .int m) (b.upd hu1) hu1.len (by omega) (by omega) pp) (fun v S4 hv => ?_) fun _ _ h => h.elim⟩
      obtain ⟨T2, lo, to, y8', hu2, rfl, rfl, l0, l1, l2⟩ := hv
      refine ⟨T2, _, _, _, y8', rfl, rfl, hu1.trans hu2, ?_, fun w hw => ?_, by simp; omega⟩
      · rw [List.map_append, hm1, Nat.zero_add, List.take_add_one, hpi]
        rfl
      · rcases List.mem_append.mp hw with hw | hw
        · exact hm2 w hw
        · simp only [List.mem_singleton] at hw
          subst hw
          simp [isWall, isWhole]
          omega
    · obtain ⟨T1, ms, z6, z7, z8, rfl, rfl, hu1, hm1, hm2, hm3⟩ := hv
      rw [List.length_map] at hm1 hm3
      obtain ⟨e1, e2, s1, s2⟩ := two_at (A := .lst (ps.map .int)) (B := .lst ms) hu1.len
      simp [W_rd e2, gTuple]
      have hfix : fixDs ms = true := by
        clear hm1 hm3 e1 e2 s1 s2
        induction ms with
        | nil => rfl
        | cons w ms ih =>
          rw [fixDs, ih fun w hw => hm2 w (List.mem_cons_of_mem _ hw), Bool.and_true]
          have hw := hm2 w (by simp)
          unfold isWall at hw
          split at hw
          · rename_i a b c
            cases a <;> cases b <;> cases c <;> simp [isWhole] at hw <;> rfl
          · cases hw
      rw [W_endT (by simp [fixD, fixDs, hfix])]
      have hlT : (T1 ++ [Cell.lst (ps.map .int), .lst ms]).take S.length = T1 := by
        rw [← hu1.len]; simp
      rw [hlT]
      refine ⟨⟨?_, h, e, ms, rfl, hv, he.1, he.2, by omega⟩, hu1⟩
      have hi := incr_of (ms := ms) (by rw [hm1, Nat.zero_add, List.take_of_length_le (by omega)]; exact sortI_lt hnd)
      have : ms.all (isWall h e) = true := List.all_eq_true.mpr hm2
      have b1 : 1 ≤ h ∧ h ≤ 60 := by omega
      have b2 : 1 ≤ e ∧ e ≤ h := by omega
      have b3 : ms.length ≤ 3 := by omega
      simp only [isHall, b1, b2, b3, this, hi]
      rfl
end Z
end
section
set_option maxHeartbeats 4000000
namespace Z
open PySem PySem.Spec L2
def heiB1 : BS := (sSeq (sPar 3 7 (e2 (g2 gAdd) (eVar 3) (e2 (g2 gMul) (e2 (g2 gIx) (eVar 0) (eC (.int 0))) (eVar 4))) (e2 (g2 gSub) (eVar 7) (eC (.int 1)))) sNil)
def heiB2 : BS := (sSeq (sPar 3 7 (e2 (g2 gSub) (eVar 3) (e2 (g2 gMul) (e2 (g2 gIx) (eVar 0) (eC (.int 0))) (eVar 4))) (e2 (g2 gAdd) (eVar 7) (eC (.int 1)))) sNil)
def heiE : BE := (eCall 2 r__law_lowest (aCons (e2 (g2 gAdd) (e2 (g2 gMul) (eVar 3) (eVar 6)) (e2 (g2 gMul) (e2 (g2 gMul) (eVar 5) (eVar 2)) (eVar 4))) (aCons (e2 (g2 gMul) (eVar 4) (eVar 6)) aNil)))
def heiR : BS := (sRet (eTup (aCons (eVar 7) (aCons (eCall 2 r__law_lowest (aCons (eIf (tB1 (e2 (g2 gEq) (e2 (g2 gMod) (eVar 7) (eC (.int 2))) (eC (.int 0)))) (eVar 3) (e2 (g2 gSub) (e2 (g2 gMul) (e2 (g2 gIx) (eVar 0) (eC (.int 0))) (eVar 4)) (eVar 3))) (aCons (eVar 4) aNil))) aNil))))
theorem hei_b (i : Nat) : b__law_height i = (sSeq (sAsg (.tup [(.tup [(.name 3), (.name 4)]), (.tup [(.name 5), (.name 6)])]) (eVar 1)) (sSeq (sAsg (.tup [(.name 3), (.name 4)]) heiE) (sSeq (sSet 7 (eC (.int 0))) (sSeq (whileM (tB1 (e2 (g2 gLt) (eVar 3) (eC (.int 0)))) heiB1 i) (sSeq (whileM (tB1 (e2 (g2 gGe) (eVar 3) (e2 (g2 gMul) (e2 (g2 gIx) (eVar 0) (eC (.int 0))) (eVar 4)))) heiB2 i) (sSeq heiR sNil)))))) := rfl
/-- a fraction in lowest terms -/
def lowT (t b : Int) : Int := t / (Int.gcd t b : Nat)
def lowB (t b : Int) : Int := b / (Int.gcd t b : Nat)
def lowD (t b : Int) : D := .tuple [.int (lowT t b), .int (lowB t b)]
theorem m_lowestW {t b : Int} (hb : 0 < b) (hs : small b = true) : r__law_lowest [.int t, .int b] = pure (.tuple [.int (t / (Int.gcd t b : Nat)), .int (b / (Int.gcd t b : Nat))]) := by
  refine W_eq fun S => ?_
  unfold r__law_lowest
  rw [W_fnT]
  simp [b__law_lowest, N__law_lowest, abs_cast, fu2]
  refine gcd_loop2 _ t.natAbs b.natAbs (by omega) ?_
  have hg : 0 < Nat.gcd t.natAbs b.natAbs := Nat.gcd_pos_of_pos_right _ (by omega)
  have hg2 : Nat.gcd t.natAbs b.natAbs ≤ b.natAbs := Nat.gcd_le_right _ (by omega)
  have hg' : (0 : Int) < (Nat.gcd t.natAbs b.natAbs : Nat) := by omega
  have sm : small (Nat.gcd t.natAbs b.natAbs : Nat) = true := by
    have := small_lt hs
    unfold small
    rw [decide_eq_true_iff]
    exact Nat.lt_of_le_of_lt (by simpa using hg2) this
  simp [hb, hg', sm]
  refine ⟨by omega, ?_⟩
  rw [W_endT rfl]
  simp [Int.gcd]
theorem m_lowestD {t b : Int} (hb : 0 < b) (hs : small b = true) : r__law_lowest [.int t, .int b] = pure (lowD t b) := m_lowestW hb hs
section
variable {Y : List D} {R Pl x5 x6 : Option D} {hh bw : Int} {Pn : Ev → Store → Prop} {Pr : D → Store → Prop}
theorem hei_1 (hq : 0 < hh * bw) (s1 : small hh = true) (s2 : small bw = true) : ∀ (n : Nat) (top fo : Int) (S : Store), -((n : Int) * (hh * bw)) ≤ top →
    (∀ top' fo' : Int, top' + fo' * (hh * bw) = top + fo * (hh * bw) → 0 ≤ top' → (top' < hh * bw ∨ top' = top) → Pn [some (.tuple (.int hh :: Y)), R, Pl, some (.int top'), some (.int bw), x5, x6, some (.int fo')] S) →
    WS (whileM (tB1 (e2 (g2 gLt) (eVar 3) (eC (.int 0)))) heiB1 (n + 1)) [some (.tuple (.int hh :: Y)), R, Pl, some (.int top), some (.int bw), x5, x6, some (.int fo)] S Pn Pr NE
  | n, top, fo, S, h, k => by
    refine WSW ?_
    by_cases ht : top < 0
    · cases n with
      | zero => simp at h; omega
      | succ n =>
        have e : ((n + 1 : Nat) : Int) * (hh * bw) = (n : Int) * (hh * bw) + hh * bw := by
          rw [Int.natCast_add, Int.add_mul]; simp
        simp [heiB1, ht, at0, s1, s2]
        refine hei_1 hq s1 s2 n (top + hh * bw) (fo - 1) S (by omega) fun top' fo' h1 h2 h3 => k top' fo' ?_ h2 ?_
        · rw [h1, Int.sub_mul]; omega
        · left; omega
    · simp [ht]
      exact k top fo rfl (by omega) (.inr rfl)
theorem hei_2 (hq : 0 < hh * bw) (s1 : small hh = true) (s2 : small bw = true) : ∀ (n : Nat) (top fo : Int) (S : Store), 0 ≤ top → top < (n : Int) * (hh * bw) + hh * bw →
    (∀ top' fo' : Int, top' + fo' * (hh * bw) = top + fo * (hh * bw) → 0 ≤ top' → top' < hh * bw → Pn [some (.tuple (.int hh :: Y)), R, Pl, some (.int top'), some (.int bw), x5, x6, some (.int fo')] S) →
    WS (whileM (tB1 (e2 (g2 gGe) (eVar 3) (e2 (g2 gMul) (e2 (g2 gIx) (eVar 0) (eC (.int 0))) (eVar 4)))) heiB2 (n + 1)) [some (.tuple (.int hh :: Y)), R, Pl, some (.int top), some (.int bw), x5, x6, some (.int fo)] S Pn Pr NE
  | n, top, fo, S, h0, h, k => by
    refine WSW ?_
    by_cases ht : hh * bw ≤ top
    · cases n with
      | zero => simp at h; omega
      | succ n =>
        have e : ((n + 1 : Nat) : Int) * (hh * bw) = (n : Int) * (hh * bw) + hh * bw := by
          rw [Int.natCast_add, Int.add_mul]; simp
        simp [heiB2, ht, at0, s1, s2]
        refine hei_2 hq s1 s2 n (top - hh * bw) (fo + 1) S (by omega) (by omega) fun top' fo' h1 h2 h3 => k top' fo' ?_ h2 h3
        rw [h1, Int.add_mul]; omega
    · simp [ht, at0, s1, s2]
      exact k top fo rfl (by omega) (by omega)
end
/-- the height of a level t / b, folded -/
def foldD (hh t b : Int) : D := lowD (if t / (hh * b) % 2 = 0 then t - t / (hh * b) * (hh * b) else (t / (hh * b) + 1) * (hh * b) - t) b
/-- (band, height) at a level -/
def hgtD (hh t b : Int) : D := .tuple [.int (t / (hh * b)), foldD hh t b]
theorem low_pos {t b : Int} (h : 0 < b) : 0 < lowB t b := by
  have hd : ((Int.gcd t b : Nat) : Int) ∣ b := Int.gcd_dvd_right ..
  have hg : 0 < Int.gcd t b := Int.gcd_pos_iff.mpr (.inr (by omega))
  exact Int.ediv_pos_of_pos_of_dvd h (by omega) hd
theorem low_mul (t b : Int) : lowT t b * (Int.gcd t b : Nat) = t ∧ lowB t b * (Int.gcd t b : Nat) = b := ⟨Int.ediv_mul_cancel (Int.gcd_dvd_left ..), Int.ediv_mul_cancel (Int.gcd_dvd_right ..)⟩
theorem Sm.low {t b : Int} {k : Nat} (h : 0 < b) (hk : Sm k b) : Sm k (lowB t b) := by
  have h1 := low_pos (t := t) h
  have h2 : lowB t b ≤ b := Int.ediv_le_self _ (by omega)
  unfold Sm at *
  omega
theorem hei_e {t b r l p : Int} {H R x7 : Option D} (hb : 1 ≤ b) (hl : 1 ≤ l) (sb : Sm 500 b) (sl : Sm 500 l) (st : Sm 510 t) (sr : Sm 500 r) (sp : Sm 500 p) :
    heiE [H, R, some (.int p), some (.int t), some (.int b), some (.int r), some (.int l), x7] = pure (lowD (t * l + r * p * b) (b * l)) := by
  have hbl : 0 < b * l := Int.mul_pos (by omega) (by omega)
  have sbl : Sm 1000 (b * l) := sb.mul sl
  simp [heiE, sb.small, sl.small, st.small, sr.small, sp.small, (sr.mul sp).small, m_lowestD hbl sbl.small]
theorem hei_r {hh f t bw : Int} {Y : List D} {R Pl x5 x6 : Option D} {S : Store} {m : Nat} {P : D → Store → Prop} {E : Str → Store → Prop} {Pn : Ev → Store → Prop} (shh : small hh = true) (slb : small bw = true) (lp : 0 < bw) (h : P (.tuple [.int f, lowD (if f % 2 = 0 then t else hh * bw - t) bw]) (S.take m)) :
    WS heiR [some (.tuple (.int hh :: Y)), R, Pl, some (.int t), some (.int bw), x5, x6, some (.int f)] S Pn (fun d S' => W (endT m d) S' P E) E := by
  by_cases hm : f % 2 = 0
  · rw [if_pos hm] at h
    simp [heiR, at0, shh, slb, hm, m_lowestD lp slb]
    rw [W_endT (by rfl)]
    exact h
  · rw [if_neg hm] at h
    simp [heiR, at0, shh, slb, hm, m_lowestD lp slb]
    rw [W_endT (by rfl)]
    exact h
theorem m_height {hh t b r l p : Int} {Y : List D} (h1 : 1 ≤ hh) (h2 : hh ≤ 60) (hb : 1 ≤ b) (hl : 1 ≤ l) (sb : Sm 500 b) (sl : Sm 500 l) (st : Sm 510 t) (sr : Sm 500 r) (sp : Sm 500 p)
    (lo : -(1000 * (b * l)) ≤ t * l + r * p * b) (hi : t * l + r * p * b ≤ 1000 * (b * l)) :
    r__law_height [.tuple (.int hh :: Y), .tuple [.tuple [.int t, .int b], .tuple [.int r, .int l]], .int p] = pure (hgtD hh (lowT (t * l + r * p * b) (b * l)) (lowB (t * l + r * p * b) (b * l))) := by
  refine W_eq fun S => ?_
  unfold r__law_height
  rw [W_fnT, hei_b]
  have hbl : 0 < b * l := Int.mul_pos (by omega) (by omega)
  have sbl : Sm 1000 (b * l) := sb.mul sl
  have shh : small hh = true := (Sm.of 20 (b := 60) (by omega)).small
  have ee := hei_e (H := some (.tuple (.int hh :: Y))) (R := some (.tuple [.tuple [.int t, .int b], .tuple [.int r, .int l]])) (x7 := none) hb hl sb sl st sr sp
  generalize eX : t * l + r * p * b = X at lo hi ee ⊢
  generalize eQ : b * l = Q at lo hi hbl sbl ee ⊢
  have lp := low_pos (t := X) hbl
  have slb : small (lowB X Q) = true := (sbl.low hbl).small
  have hq : 0 < hh * lowB X Q := Int.mul_pos (by omega) lp
  obtain ⟨m1, m2⟩ := low_mul X Q
  have hg : 0 < Int.gcd X Q := Int.gcd_pos_iff.mpr (.inr (by omega))
  have q1 : lowB X Q ≤ hh * lowB X Q := by
    have := Int.mul_le_mul_of_nonneg_right h1 (show 0 ≤ lowB X Q by omega)
    omega
  have lo' : -(1000 * lowB X Q) ≤ lowT X Q := by
    refine Int.le_of_mul_le_mul_right (a := ((Int.gcd X Q : Nat) : Int)) ?_ (by omega)
    rw [Int.neg_mul, Int.mul_assoc, m1, m2]
    exact lo
  have hi' : lowT X Q ≤ 1000 * lowB X Q := by
    refine Int.le_of_mul_le_mul_right (a := ((Int.gcd X Q : Nat) : Int)) ?_ (by omega)
    rw [Int.mul_assoc, m1, m2]
    exact hi
  simp only [WS_seq]
  rw [WS_asg]
  show WS (sAsg (.tup [.name 3, .name 4]) heiE) [some (.tuple (.int hh :: Y)), some (.tuple [.tuple [.int t, .int b], .tuple [.int r, .int l]]), some (.int p), some (.int t), some (.int b), some (.int r), some (.int l), none] S _ _ _
  rw [WS_asg, ee]
  show WS (whileM _ _ (999999 + 1)) [some (.tuple (.int hh :: Y)), some (.tuple [.tuple [.int t, .int b], .tuple [.int r, .int l]]), some (.int p), some (.int (lowT X Q)), some (.int (lowB X Q)), some (.int r), some (.int l), some (.int 0)] S _ _ _
  have f1 : -((999999 : Nat) * (hh * lowB X Q) : Int) ≤ lowT X Q := by omega
  refine hei_1 (bw := lowB X Q) hq shh slb 999999 (lowT X Q) 0 S f1 fun t1 f1 i1 i2 i3 => ?_
  refine hei_2 (bw := lowB X Q) hq shh slb 999999 t1 f1 S i2 (by omega) fun t2 f2 j1 j2 j3 => ?_
  have ef : f2 = lowT X Q / (hh * lowB X Q) := by
    have e1 : lowT X Q = t2 + f2 * (hh * lowB X Q) := by omega
    rw [e1, Int.add_mul_ediv_right _ _ (by omega), Int.ediv_eq_zero_of_lt j2 j3, Int.zero_add]
  have et : t2 = lowT X Q - lowT X Q / (hh * lowB X Q) * (hh * lowB X Q) := by
    rw [← ef]; omega
  have e2 : hh * lowB X Q - t2 = (lowT X Q / (hh * lowB X Q) + 1) * (hh * lowB X Q) - lowT X Q := by
    rw [et, Int.add_mul]; omega
  refine hei_r shh slb lp ⟨?_, by simp⟩
  unfold hgtD foldD
  rw [e2, et, ef]
end Z
end
section
set_option maxHeartbeats 4000000
namespace Z
open PySem PySem.Spec L2
def runB1 : BS := (sSeq (sAsg (.tup [(.name 6), (.name 7)]) (eCall 3 r__law_height (aCons (eVar 0) (aCons (eVar 1) (aCons (eVar 3) aNil))))) (sSeq (sIf (bTru (eCall 2 r__law_less (aCons (eVar 7) (aCons (eTup (aCons (eVar 4) (aCons (eC (.int 1)) aNil))) aNil)))) (sSeq (sRet (eTup (aCons (e2 (g2 gAdd) (eVar 2) (eTup (aCons (eTup (aCons (eC (.str "under")) (aCons (eVar 6) aNil))) aNil))) (aCons (eVar 3) (aCons (eVar 7) aNil))))) sNil) sNil) (sSeq (sIf (bTru (eCall 2 r__law_less (aCons (eTup (aCons (eVar 5) (aCons (eC (.int 1)) aNil))) (aCons (eVar 7) aNil)))) (sSeq (sRet (eTup (aCons (e2 (g2 gAdd) (eVar 2) (eTup (aCons (eTup (aCons (eC (.str "over")) (aCons (eVar 6) aNil))) aNil))) (aCons (eVar 3) (aCons (eVar 7) aNil))))) sNil) sNil) (sSeq (sSet 2 (e2 (g2 gAdd) (eVar 2) (eTup (aCons (eTup (aCons (eC (.str "through")) (aCons (eVar 6) aNil))) aNil)))) sNil))))
theorem run_b (i : Nat) : b__law_run i = (sSeq (sSet 2 (eTup aNil)) (sSeq (sFor (iSeq (e2 (g2 gIx) (eVar 0) (eC (.int 1)))) (.tup [(.name 3), (.name 4), (.name 5)]) runB1) (sSeq (sAsg (.tup [(.name 6), (.name 7)]) (eCall 3 r__law_height (aCons (eVar 0) (aCons (eVar 1) (aCons (e2 (g2 gIx) (eVar 0) (eC (.int 2))) aNil))))) (sSeq (sRet (eTup (aCons (e2 (g2 gAdd) (eVar 2) (eTup (aCons (eTup (aCons (eC (.str "screen")) (aCons (eVar 6) aNil))) aNil))) (aCons (e2 (g2 gIx) (eVar 0) (eC (.int 2))) (aCons (eVar 7) aNil))))) sNil)))) := rfl
theorem low_gcd {t b : Int} (h : 0 < b) : Int.gcd (lowT t b) (lowB t b) = 1 := by
  have hg : 0 < Int.gcd t b := Int.gcd_pos_iff.mpr (.inr (by omega))
  exact Int.gcd_ediv_gcd_ediv_gcd hg
theorem low_le {t b : Int} (h : 0 < b) : lowB t b ≤ b := Int.ediv_le_self _ (by omega)
/-- bounds of a fraction stand for its lowest terms -/
theorem low_ge {t b k : Int} (h : 0 < b) (hk : k * b ≤ t) : k * lowB t b ≤ lowT t b := by
  obtain ⟨m1, m2⟩ := low_mul t b
  have hg : 0 < Int.gcd t b := Int.gcd_pos_iff.mpr (.inr (by omega))
  refine Int.le_of_mul_le_mul_right (a := ((Int.gcd t b : Nat) : Int)) ?_ (by omega)
  rw [Int.mul_assoc, m1, m2]
  exact hk
theorem low_lt {t b k : Int} (h : 0 < b) (hk : t ≤ k * b) : lowT t b ≤ k * lowB t b := by
  obtain ⟨m1, m2⟩ := low_mul t b
  have hg : 0 < Int.gcd t b := Int.gcd_pos_iff.mpr (.inr (by omega))
  refine Int.le_of_mul_le_mul_right (a := ((Int.gcd t b : Nat) : Int)) ?_ (by omega)
  rw [Int.mul_assoc, m1, m2]
  exact hk
def foldF (hh t b : Int) : Int := if t / (hh * b) % 2 = 0 then t - t / (hh * b) * (hh * b) else (t / (hh * b) + 1) * (hh * b) - t
theorem foldD_eq {hh t b : Int} : foldD hh t b = lowD (foldF hh t b) b := rfl
theorem fold_bd {hh t b : Int} (h : 0 < hh * b) : 0 ≤ foldF hh t b ∧ foldF hh t b ≤ hh * b := by
  unfold foldF
  generalize hh * b = q at h ⊢
  have h1 := Int.ediv_mul_le t (show q ≠ 0 by omega)
  have h2 := Int.lt_ediv_add_one_mul_self t h
  rw [Int.add_mul] at h2
  split
  · omega
  · rw [Int.add_mul]; omega
theorem Sm.le {k : Nat} {a b : Int} (hb : Sm k b) (h0 : 0 ≤ a) (h : a ≤ b) : Sm k a := by
  unfold Sm at *
  omega
theorem m_less {a b c d : Int} (sa : small a = true) (sb : small b = true) (sc : small c = true) (sd : small d = true) : r__law_less [.tuple [.int a, .int b], .tuple [.int c, .int d]] = pure (.bool (decide (a * d < c * b))) := by
  refine W_eq fun S => ?_
  unfold r__law_less
  rw [W_fnT]
  simp [b__law_less, N__law_less, at0, at1, sa, sb, sc, sd]
/-- the ray's level at a place -/
def levT (t b r l p : Int) : Int := lowT (t * l + r * p * b) (b * l)
def levB (t b r l p : Int) : Int := lowB (t * l + r * p * b) (b * l)
def evD (k : Str) (b : Int) : D := .tuple [.str k, .int b]
/-- (word, place of the end, height there) -/
def runD (hh e t b r l : Int) : List D → List D → D
  | acc, .tuple [.int p, .int lo, .int to] :: ws =>
    if lowT (foldF hh (levT t b r l p) (levB t b r l p)) (levB t b r l p) < lo * lowB (foldF hh (levT t b r l p) (levB t b r l p)) (levB t b r l p) then
      .tuple [.tuple (acc ++ [evD "under" (levT t b r l p / (hh * levB t b r l p))]), .int p, foldD hh (levT t b r l p) (levB t b r l p)]
    else if to * lowB (foldF hh (levT t b r l p) (levB t b r l p)) (levB t b r l p) < lowT (foldF hh (levT t b r l p) (levB t b r l p)) (levB t b r l p) then
      .tuple [.tuple (acc ++ [evD "over" (levT t b r l p / (hh * levB t b r l p))]), .int p, foldD hh (levT t b r l p) (levB t b r l p)]
    else runD hh e t b r l (acc ++ [evD "through" (levT t b r l p / (hh * levB t b r l p))]) ws
  | acc, _ => .tuple [.tuple (acc ++ [evD "screen" (levT t b r l e / (hh * levB t b r l e))]), .int e, foldD hh (levT t b r l e) (levB t b r l e)]
theorem runD_nil {hh e t b r l : Int} {acc : List D} : runD hh e t b r l acc [] = .tuple [.tuple (acc ++ [evD "screen" (levT t b r l e / (hh * levB t b r l e))]), .int e, foldD hh (levT t b r l e) (levB t b r l e)] := by simp [runD]
/-- a ray within a hall, with numbers that are not too long -/
structure RayOk (hh t b r l : Int) : Prop where
  h1 : 1 ≤ hh
  h2 : hh ≤ 60
  b1 : 1 ≤ b
  l1 : 1 ≤ l
  sb : Sm 500 b
  sl : Sm 500 l
  t1 : 0 ≤ t
  t2 : t ≤ hh * b
  r1 : -l ≤ r
  r2 : r ≤ l
section
variable {hh t b r l : Int}
theorem RayOk.bl (R : RayOk hh t b r l) : 0 < b * l := Int.mul_pos (by have := R.b1; omega) (by have := R.l1; omega)
theorem RayOk.st (R : RayOk hh t b r l) : Sm 510 t := by
  have h : Sm (6 + 500) (hh * b) := Sm.mul (.of 6 (b := 60) (by have := R.h1; have := R.h2; omega)) R.sb
  exact (Sm.le h R.t1 R.t2).mono
theorem RayOk.sr (R : RayOk hh t b r l) : Sm 500 r := by
  have := R.sl; have := R.r1; have := R.r2; have := R.l1
  unfold Sm at *
  omega
/-- the level at a place p lies between -p and hh + p -/
theorem RayOk.lev (R : RayOk hh t b r l) {p : Int} (hp : 0 ≤ p) : -p * (b * l) ≤ t * l + r * p * b ∧ t * l + r * p * b ≤ (hh + p) * (b * l) := by
  have a1 : 0 ≤ t * l := Int.mul_nonneg R.t1 (by have := R.l1; omega)
  have a2 : t * l ≤ hh * b * l := Int.mul_le_mul_of_nonneg_right R.t2 (by have := R.l1; omega)
  have hpb : 0 ≤ p * b := Int.mul_nonneg hp (by have := R.b1; omega)
  have a3 : -l * (p * b) ≤ r * (p * b) := Int.mul_le_mul_of_nonneg_right R.r1 hpb
  have a4 : r * (p * b) ≤ l * (p * b) := Int.mul_le_mul_of_nonneg_right R.r2 hpb
  have e1 : -p * (b * l) = -l * (p * b) := by grind
  have e2 : (hh + p) * (b * l) = hh * b * l + l * (p * b) := by grind
  have e3 : r * p * b = r * (p * b) := by grind
  rw [e1, e2, e3]
  omega
theorem RayOk.height (R : RayOk hh t b r l) {p : Int} {Y : List D} (hp : 0 ≤ p) (hp2 : p ≤ 60) : r__law_height [.tuple (.int hh :: Y), .tuple [.tuple [.int t, .int b], .tuple [.int r, .int l]], .int p] = pure (hgtD hh (levT t b r l p) (levB t b r l p)) := by
  obtain ⟨h1, h2⟩ := R.lev hp
  have hbl := R.bl
  have k1 : p * (b * l) ≤ 1000 * (b * l) := Int.mul_le_mul_of_nonneg_right (by omega) (by omega)
  have k2 : (hh + p) * (b * l) ≤ 1000 * (b * l) := Int.mul_le_mul_of_nonneg_right (by have := R.h2; omega) (by omega)
  rw [Int.neg_mul] at h1
  exact m_height R.h1 R.h2 R.b1 R.l1 R.sb R.sl R.st R.sr (.of 500 (b := 60) (by omega) (by decide)) (by omega) (by omega)
theorem RayOk.levB (R : RayOk hh t b r l) {p : Int} : 0 < levB t b r l p ∧ Sm 1000 (Z.levB t b r l p) := by
  have hbl := R.bl
  exact ⟨low_pos hbl, Sm.low hbl (R.sb.mul R.sl)⟩
theorem RayOk.q (R : RayOk hh t b r l) {p : Int} : 0 < hh * Z.levB t b r l p := Int.mul_pos (by have := R.h1; omega) R.levB.1
theorem RayOk.band (R : RayOk hh t b r l) {p : Int} (hp : 0 ≤ p) (hp2 : p ≤ hh) : -1 ≤ levT t b r l p / (hh * Z.levB t b r l p) ∧ levT t b r l p / (hh * Z.levB t b r l p) ≤ 2 := by
  obtain ⟨h1, h2⟩ := R.lev hp
  have hbl := R.bl
  have g1 := low_ge hbl h1
  have g2 := low_lt hbl h2
  have hq := R.q (p := p)
  have lb := (R.levB (p := p)).1
  show -1 ≤ levT t b r l p / (hh * Z.levB t b r l p) ∧ levT t b r l p / (hh * Z.levB t b r l p) ≤ 2
  change -p * Z.levB t b r l p ≤ levT t b r l p at g1
  change levT t b r l p ≤ (hh + p) * Z.levB t b r l p at g2
  generalize Z.levB t b r l p = B at *
  generalize levT t b r l p = T at *
  have k1 : p * B ≤ hh * B := Int.mul_le_mul_of_nonneg_right hp2 (by omega)
  rw [Int.add_mul] at g2
  rw [Int.neg_mul] at g1
  have k2 : T < 3 * (hh * B) := by omega
  have k3 : -1 * (hh * B) ≤ T := by omega
  have := Int.ediv_lt_of_lt_mul hq k2
  exact ⟨Int.le_ediv_of_mul_le hq k3, by omega⟩
theorem RayOk.fold (R : RayOk hh t b r l) {p : Int} : 0 ≤ lowT (foldF hh (levT t b r l p) (Z.levB t b r l p)) (Z.levB t b r l p) ∧ Sm 1010 (lowT (foldF hh (levT t b r l p) (Z.levB t b r l p)) (Z.levB t b r l p)) ∧ 0 < lowB (foldF hh (levT t b r l p) (Z.levB t b r l p)) (Z.levB t b r l p) ∧ Sm 1000 (lowB (foldF hh (levT t b r l p) (Z.levB t b r l p)) (Z.levB t b r l p)) ∧
    lowT (foldF hh (levT t b r l p) (Z.levB t b r l p)) (Z.levB t b r l p) ≤ hh * lowB (foldF hh (levT t b r l p) (Z.levB t b r l p)) (Z.levB t b r l p) := by
  obtain ⟨lb, sb⟩ := R.levB (p := p)
  obtain ⟨f1, f2⟩ := fold_bd (t := levT t b r l p) (R.q (p := p))
  have g1 := low_ge (k := 0) lb (by rw [Int.zero_mul]; exact f1)
  have g2 := low_lt lb f2
  rw [Int.zero_mul] at g1
  have c1 := Sm.low (t := foldF hh (levT t b r l p) (Z.levB t b r l p)) lb sb
  have h : Sm (6 + 1000) (hh * lowB (foldF hh (levT t b r l p) (Z.levB t b r l p)) (Z.levB t b r l p)) := Sm.mul (.of 6 (b := 60) (by have := R.h1; have := R.h2; omega)) c1
  exact ⟨g1, (Sm.le h g1 g2).mono, low_pos lb, c1, g2⟩
theorem wall_int {h e : Int} {v : D} (w : isWall h e v = true) : ∃ p lo to : Int, v = .tuple [.int p, .int lo, .int to] ∧ 1 ≤ p ∧ p ≤ e - 1 ∧ 0 ≤ lo ∧ lo ≤ to ∧ to ≤ h := by
  unfold isWall at w
  split at w
  · rename_i a b c
    cases a <;> cases b <;> cases c <;> simp [isWhole] at w
    exact ⟨_, _, _, rfl, by omega⟩
  · cases w
theorem run_loop (R : RayOk hh t b r l) {e : Int} (he : e ≤ hh) {Y : List D} {S : Store} : ∀ (ws acc : List D) (x3 x4 x5 x6 x7 : Option D), (∀ w ∈ ws, isWall hh e w = true) → acc.length + ws.length ≤ 1000 →
    WS (forM (fun _ => true) (.tup [.name 3, .name 4, .name 5]) runB1 ws) [some (.tuple (.int hh :: Y)), some (.tuple [.tuple [.int t, .int b], .tuple [.int r, .int l]]), some (.tuple acc), x3, x4, x5, x6, x7] S
      (fun v S' => ∃ (acc' : List D) (x3 x4 x5 x6 x7 : Option D), v = [some (.tuple (.int hh :: Y)), some (.tuple [.tuple [.int t, .int b], .tuple [.int r, .int l]]), some (.tuple acc'), x3, x4, x5, x6, x7] ∧ S' = S ∧ acc'.length ≤ 1000 ∧ runD hh e t b r l acc ws = runD hh e t b r l acc' [])
      (fun d S' => d = runD hh e t b r l acc ws ∧ S' = S) NE
  | [], acc, x3, x4, x5, x6, x7, _, hl => WSF_nil rfl ⟨acc, _, _, _, _, _, rfl, rfl, by simpa using hl, rfl⟩
  | w :: ws, acc, x3, x4, x5, x6, x7, hw, hl => by
    obtain ⟨p, lo, to, rfl, p1, p2, l1, l2, l3⟩ := wall_int (hw w (by simp))
    rw [List.length_cons] at hl
    refine WSF_cons rfl (env1 := [some (.tuple (.int hh :: Y)), some (.tuple [.tuple [.int t, .int b], .tuple [.int r, .int l]]), some (.tuple acc), some (.int p), some (.int lo), some (.int to), x6, x7]) rfl ?_
    have hh' := R.height (p := p) (Y := Y) (by omega) (by have := R.h2; omega)
    obtain ⟨f1, f2, f3, f4, f5⟩ := R.fold (p := p)
    have s1 : small 1 = true := (Sm.of 6 (b := 60) (by omega)).small
    have s2 : small lo = true := (Sm.of 6 (b := 60) (by have := R.h2; omega)).small
    have s3 : small to = true := (Sm.of 6 (b := 60) (by have := R.h2; omega)).small
    have m1 := m_less f2.small f4.small s2 s1
    have m2 := m_less s3 s1 f2.small f4.small
    rw [Int.mul_one] at m1 m2
    have ih := fun acc x6 x7 => run_loop R he (Y := Y) (S := S) ws acc (some (.int p)) (some (.int lo)) (some (.int to)) x6 x7 fun w h => hw w (List.mem_cons_of_mem _ h)
    generalize hF : (fun v S' => WS (forM (fun _ => true) (.tup [.name 3, .name 4, .name 5]) runB1 ws) v S' _ _ _) = F
    unfold runB1
    rw [WS_seq, WS_asg]
    have e1 : eCall 3 r__law_height (aCons (eVar 0) (aCons (eVar 1) (aCons (eVar 3) aNil))) [some (.tuple (.int hh :: Y)), some (.tuple [.tuple [.int t, .int b], .tuple [.int r, .int l]]), some (.tuple acc), some (.int p), some (.int lo), some (.int to), x6, x7] = pure (hgtD hh (levT t b r l p) (Z.levB t b r l p)) := hh'
    rw [e1, W_pure]
    show WS _ [some (.tuple (.int hh :: Y)), some (.tuple [.tuple [.int t, .int b], .tuple [.int r, .int l]]), some (.tuple acc), some (.int p), some (.int lo), some (.int to), some (.int (levT t b r l p / (hh * Z.levB t b r l p))), some (foldD hh (levT t b r l p) (Z.levB t b r l p))] S _ _ _
    rw [foldD_eq, lowD]
    have g0 : acc.length + 1 ≤ 1000000 := by omega
    by_cases c1 : lowT (foldF hh (levT t b r l p) (Z.levB t b r l p)) (Z.levB t b r l p) < lo * lowB (foldF hh (levT t b r l p) (Z.levB t b r l p)) (Z.levB t b r l p)
    · have e2 : runD hh e t b r l acc (.tuple [.int p, .int lo, .int to] :: ws) = .tuple [.tuple (acc ++ [evD "under" (levT t b r l p / (hh * Z.levB t b r l p))]), .int p, foldD hh (levT t b r l p) (Z.levB t b r l p)] := by
        rw [runD, if_pos c1]
      rw [e2]
      simp [m1, c1, g0, foldD_eq, lowD, evD]
    · by_cases c2 : to * lowB (foldF hh (levT t b r l p) (Z.levB t b r l p)) (Z.levB t b r l p) < lowT (foldF hh (levT t b r l p) (Z.levB t b r l p)) (Z.levB t b r l p)
      · have e2 : runD hh e t b r l acc (.tuple [.int p, .int lo, .int to] :: ws) = .tuple [.tuple (acc ++ [evD "over" (levT t b r l p / (hh * Z.levB t b r l p))]), .int p, foldD hh (levT t b r l p) (Z.levB t b r l p)] := by
          rw [runD, if_neg c1, if_pos c2]
        rw [e2]
        simp [m1, m2, c1, c2, g0, foldD_eq, lowD, evD]
      · have e2 : runD hh e t b r l acc (.tuple [.int p, .int lo, .int to] :: ws) = runD hh e t b r l (acc ++ [evD "through" (levT t b r l p / (hh * Z.levB t b r l p))]) ws := by
          rw [runD, if_neg c1, if_neg c2]
        have := ih (acc ++ [evD "through" (levT t b r l p / (hh * Z.levB t b r l p))]) (some (.int (levT t b r l p / (hh * Z.levB t b r l p)))) (some (lowD (foldF hh (levT t b r l p) (Z.levB t b r l p)) (Z.levB t b r l p))) (by simp; omega)
        simp [m1, m2, c1, c2, g0]
        rw [← hF]
        rw [e2]
        exact this
theorem fixs_of {xs : List D} (h : ∀ w ∈ xs, fixD w = true) : fixDs xs = true := by
  rw [fixs_all]; exact List.all_eq_true.mpr h
theorem run_fix {e : Int} : ∀ (ws acc : List D), fixDs acc = true → fixD (runD hh e t b r l acc ws) = true := by
  intro ws
  induction ws with
  | nil => intro acc h; simp [runD, h, evD, foldD_eq, lowD]
  | cons w ws ih =>
    intro acc h
    unfold runD
    split
    · split
      · simp [h, evD, foldD_eq, lowD]
      · split
        · simp [h, evD, foldD_eq, lowD]
        · rename_i e1 _ _
          simp at e1
          obtain ⟨_, rfl⟩ := e1
          exact ih _ (by simp [h, evD])
    · simp [h, evD, foldD_eq, lowD]
theorem m_run (R : RayOk hh t b r l) {e : Int} (he : e ≤ hh) (he0 : 0 ≤ e) {ws : List D} (hw : ∀ w ∈ ws, isWall hh e w = true) (hl : ws.length ≤ 3) :
    r__law_run [.tuple [.int hh, .tuple ws, .int e], .tuple [.tuple [.int t, .int b], .tuple [.int r, .int l]]] = pure (runD hh e t b r l [] ws) := by
  refine W_eq fun S => ?_
  unfold r__law_run
  rw [W_fnT, run_b]
  have key := run_loop R he (Y := [.tuple ws, .int e]) (S := S) ws [] none none none none none hw (by simp; omega)
  simp [N__law_run, at1]
  refine WS_mono key (fun v S' hv => ?_) fun d S' hd => ?_
  · obtain ⟨acc, x3, x4, x5, x6, x7, rfl, rfl, hacc, e1⟩ := hv
    have hh' := R.height (p := e) (Y := [.tuple ws, .int e]) he0 (by have := R.h2; omega)
    have g0 : acc.length + 1 ≤ 1000000 := by omega
    rw [e1]
    simp [at2, hh', hgtD, g0]
    have := run_fix (hh := hh) (t := t) (b := b) (r := r) (l := l) (e := e) ws [] rfl
    rw [e1, runD_nil, evD] at this
    rw [W_endT this, runD_nil, evD]
    simp
  · obtain ⟨rfl, rfl⟩ := hd
    rw [W_endT (run_fix ws [] rfl)]
    simp
/-! ### what a drawn ray is -/
theorem frac_low {t b : Int} (h : 0 < b) (hb : b ≤ 1000000) (h1 : -1000000 ≤ t) (h2 : t ≤ 1000000) : isFrac (lowD t b) = true := by
  have l1 := low_pos (t := t) h
  have l2 := low_le (t := t) h
  have gc := low_gcd (t := t) h
  have m := (low_mul t b).1
  have hg : 0 < Int.gcd t b := Int.gcd_pos_iff.mpr (.inr (by omega))
  have a0 : (lowT t b).natAbs ≤ t.natAbs := by
    have h3 := congrArg Int.natAbs m
    rw [Int.natAbs_mul, Int.natAbs_natCast] at h3
    have h4 := Nat.mul_le_mul_left (lowT t b).natAbs hg
    omega
  simp [isFrac, lowD, gc]
  omega
def DRay (hh : Int) (d : D) : Prop := isRay hh d = true ∧ ∃ t b r l : Int, d = .tuple [.tuple [.int t, .int b], .tuple [.int r, .int l]] ∧ RayOk hh t b r l ∧ b ≤ 4 ∧ l ≤ 6 ∧ Int.gcd t b = 1 ∧ Int.gcd r l = 1
local macro_rules | `(tactic| trivial) => `(tactic| repeat (first
  | with_reducible refine WSt.h ?_
  | ((with_reducible apply w_rd_c); · assumption)
  | ((with_reducible apply w_rd_ok); · assumption)
  | ((with_reducible apply w_new); · first | rfl | assumption | (simp; done))
  | ((with_reducible apply len_ok); · rfl)
  | ((with_reducible apply len_eq); · rfl)
  | ((with_reducible apply w_is_int_ok); · assumption)
  | ((with_reducible apply w_is_bool_ok); · assumption)
  | ((with_reducible apply w_is_str_ok); · assumption)
  | ((with_reducible apply w_is_list_ok); · assumption)
  | ((with_reducible apply w_is_tuple_ok); · assumption)
  | ((with_reducible apply w_addT); · first | omega | (simp; omega) | (simp; done))
  | ((with_reducible apply w_addL); · first | omega | (simp; omega) | (simp; done))
  | ((with_reducible apply w_addC); · first | omega | (simp; omega) | (simp; done))
  | ((with_reducible apply w_mul); (· (first | assumption | (refine sm_om ?_; omega))); · (first | assumption | (refine sm_om ?_; omega)))
  | ((with_reducible apply w_div); (· omega); · (first | assumption | (refine sm_om ?_; omega)))
  | ((with_reducible apply w_mod); · first | omega | assumption)
  | ((with_reducible apply w_eqd); (· first | assumption | (simp; done) | (simp [okDs_cons']; done)); · first | assumption | (simp; done) | (simp [okDs_cons']; done))
  | ((with_reducible apply w_ned); (· first | assumption | (simp; done) | (simp [okDs_cons']; done)); · first | assumption | (simp; done) | (simp [okDs_cons']; done))
  | ((with_reducible apply w_ixt); · first | exact at_0 | exact at_1 | exact at_2 | exact at_3 | assumption)
  | ((with_reducible apply w_ixl); · first | exact at_0 | exact at_1 | exact at_2 | exact at_3 | assumption)
  | ((with_reducible apply w_ixf); · first | exact at_0 | exact at_1 | exact at_2 | exact at_3 | assumption)
  | ((with_reducible apply w_rng); · first | omega | (simp; omega) | (simp; done))
  | ((with_reducible apply w_endT); · first | rfl | assumption | (simp; done))
  | ((with_reducible apply w_endL); · first | rfl | assumption | (simp; done))
  | ((with_reducible apply if_d1); · first | assumption | omega)
  | ((with_reducible apply if_d0); · first | assumption | omega)
  | ((with_reducible apply if_n1); · first | assumption | omega)
  | ((with_reducible apply if_n0); · first | assumption | omega)))
theorem w_take {S : Store} {n : Nat} {m : Int} {P : D → Store → Prop} {E : Str → Store → Prop} (b : Bag S n) (hm : 0 < m) (H : ∀ (i : Int) (S' : Store), 0 ≤ i → i < m → Upd S n S' → Bag S' n → P (.int i) S') : W (r__law_take [.cell n, .int m]) S P E :=
  W_mono (m_take b hm) (fun a S' ⟨⟨i, e, h0, h1⟩, hu⟩ => by subst e; exact H i S' h0 h1 hu (b.upd hu)) fun _ _ h => h.elim
theorem isRay_low {hh t b r l : Int} (hb : 0 < b) (hb2 : b ≤ 1000000) (hl : 0 < l) (hl2 : l ≤ 1000000) (h0 : 0 ≤ hh) (h60 : hh ≤ 60) (ht1 : -1000000 ≤ t) (ht2 : t ≤ 1000000) (t0 : 0 ≤ t) (t1 : t ≤ hh * b) (r0 : -l ≤ r) (r1 : r ≤ l) : isRay hh (.tuple [lowD t b, lowD r l]) = true := by
  have f1 := frac_low (t := t) hb hb2 ht1 ht2
  have f2 := frac_low (t := r) hl hl2 (by omega) (by omega)
  have a1 := low_ge (k := 0) (t := t) hb (by omega)
  have a2 := low_lt (k := hh) (t := t) hb t1
  have a3 := low_ge (k := -1) (t := r) hl (by omega)
  have a4 := low_lt (k := 1) (t := r) hl (by omega)
  rw [Int.zero_mul] at a1
  simp only [isRay, f1, f2]
  simp [lowD]
  omega
theorem m_ray {S : Store} {n : Nat} {hh : Int} {Y : List D} (b : Bag S n) (h1 : 1 ≤ hh) (h2 : hh ≤ 60) : W (r__law_ray [.cell n, .tuple (.int hh :: Y)]) S (fun d S' => DRay hh d ∧ Upd S n S') NE := by
  unfold r__law_ray
  rw [W_fnT]
  unfold b__law_ray
  show WS _ [some (.cell n), some (.tuple (.int hh :: Y)), none, none, none, none] S _ _ _
  trivial
  refine w_take b (by omega) fun i S1 i0 i1 hu1 b1 => ?_
  trivial
  refine w_take b1 (by omega) fun j S2 j0 j1 hu2 b2 => ?_
  trivial
  have hp : 0 ≤ hh * (1 + i) := Int.mul_nonneg (by omega) (by omega)
  have hp2 : hh * (1 + i) ≤ 60 * (1 + i) := Int.mul_le_mul_of_nonneg_right h2 (by omega)
  refine w_take b2 (by omega) fun k S3 k0 k1 hu3 b3 => ?_
  trivial
  refine w_take b3 (by omega) fun m S4 m0 m1 hu4 b4 => ?_
  trivial
  refine w_eq (m_lowestD (by omega) (sm_om (by omega))) ?_
  trivial
  refine w_eq (m_lowestD (by omega) (sm_om (by omega))) ?_
  trivial
  have hu := hu1.trans (hu2.trans (hu3.trans hu4))
  refine ⟨⟨isRay_low (by omega) (by omega) (by omega) (by omega) (by omega) (by omega) (by omega) (by omega) (by omega) (by omega) (by omega) (by omega), _, _, _, _, rfl, ⟨h1, h2, ?_, ?_, ?_, ?_, ?_, ?_, ?_, ?_⟩, ?_, ?_, low_gcd (by omega), low_gcd (by omega)⟩, by rw [← hu.len, List.take_length]; exact hu⟩
  all_goals have p1 := low_pos (t := k) (b := 1 + i) (by omega)
  all_goals have p2 := low_pos (t := m - (1 + j)) (b := 1 + j) (by omega)
  all_goals have p3 := low_le (t := k) (b := 1 + i) (by omega)
  all_goals have p4 := low_le (t := m - (1 + j)) (b := 1 + j) (by omega)
  all_goals have a1 := low_ge (k := 0) (t := k) (b := 1 + i) (by omega) (by omega)
  all_goals have a2 := low_lt (k := hh) (t := k) (b := 1 + i) (by omega) (by omega)
  all_goals have a3 := low_ge (k := -1) (t := m - (1 + j)) (b := 1 + j) (by omega) (by omega)
  all_goals have a4 := low_lt (k := 1) (t := m - (1 + j)) (b := 1 + j) (by omega) (by omega)
  all_goals try omega
  all_goals exact (Sm.of 20 (b := 1000) (by omega)).mono
end
end Z
end
section
set_option maxHeartbeats 4000000
namespace Z
open PySem PySem.Spec L2
local macro_rules | `(tactic| trivial) => `(tactic| repeat (first
  | with_reducible refine WSt.h ?_
  | ((with_reducible apply w_rd_c); · assumption)
  | ((with_reducible apply w_rd_ok); · assumption)
  | ((with_reducible apply w_new); · first | rfl | assumption | (simp; done))
  | ((with_reducible apply len_ok); · rfl)
  | ((with_reducible apply len_eq); · rfl)
  | ((with_reducible apply w_is_int_ok); · assumption)
  | ((with_reducible apply w_is_bool_ok); · assumption)
  | ((with_reducible apply w_is_str_ok); · assumption)
  | ((with_reducible apply w_is_list_ok); · assumption)
  | ((with_reducible apply w_is_tuple_ok); · assumption)
  | ((with_reducible apply w_addT); · first | omega | (simp; omega) | (simp; done))
  | ((with_reducible apply w_addL); · first | omega | (simp; omega) | (simp; done))
  | ((with_reducible apply w_addC); · first | omega | (simp; omega) | (simp; done))
  | ((with_reducible apply w_mul); (· (first | assumption | (refine sm_om ?_; omega))); · (first | assumption | (refine sm_om ?_; omega)))
  | ((with_reducible apply w_div); (· omega); · (first | assumption | (refine sm_om ?_; omega)))
  | ((with_reducible apply w_mod); · first | omega | assumption)
  | ((with_reducible apply w_eqd); (· first | assumption | (simp; done) | (simp [okDs_cons']; done)); · first | assumption | (simp; done) | (simp [okDs_cons']; done))
  | ((with_reducible apply w_ned); (· first | assumption | (simp; done) | (simp [okDs_cons']; done)); · first | assumption | (simp; done) | (simp [okDs_cons']; done))
  | ((with_reducible apply w_ixt); · first | exact at_0 | exact at_1 | exact at_2 | exact at_3 | assumption)
  | ((with_reducible apply w_ixl); · first | exact at_0 | exact at_1 | exact at_2 | exact at_3 | assumption)
  | ((with_reducible apply w_ixf); · first | exact at_0 | exact at_1 | exact at_2 | exact at_3 | assumption)
  | ((with_reducible apply w_rng); · first | omega | (simp; omega) | (simp; done))
  | ((with_reducible apply w_endT); · first | rfl | assumption | (simp; done))
  | ((with_reducible apply w_endL); · first | rfl | assumption | (simp; done))
  | ((with_reducible apply if_d1); · first | assumption | omega)
  | ((with_reducible apply if_d0); · first | assumption | omega)
  | ((with_reducible apply if_n1); · first | assumption | omega)
  | ((with_reducible apply if_n0); · first | assumption | omega)))
/-- plain values of bounded depth and length -/
def Pl (L : Nat) : Nat → D → Prop
  | n + 1, .tuple xs => xs.length ≤ L ∧ ∀ x ∈ xs, Pl L n x
  | n + 1, .list xs => xs.length ≤ L ∧ ∀ x ∈ xs, Pl L n x
  | _, d => okD 0 d = true
theorem Pl.flat {L n : Nat} {d : D} (h : okD 0 d = true) : Pl L n d := by
  cases n <;> cases d <;> first | exact h | (simp [okD] at h)
theorem Pl.ok {L : Nat} : ∀ {n : Nat} {d : D}, Pl L n d → okD n d = true
  | 0, d, h => by unfold Pl at h; exact h
  | n + 1, .tuple xs, h => by
    rw [okD_tuple]
    exact okDs_of fun x hx => (h.2 x hx).ok
  | n + 1, .list xs, h => by
    rw [okD_list]
    exact okDs_of fun x hx => (h.2 x hx).ok
  | n + 1, .none, h => rfl
  | n + 1, .bool _, h => rfl
  | n + 1, .int _, h => rfl
  | n + 1, .str _, h => okD_mono (Nat.zero_le _) _ h
  | n + 1, .cell _, h => by cases h
  | n + 1, .fn _, h => by cases h
  | n + 1, .frz _, h => by cases h
  | n + 1, .adr _, h => by cases h
theorem Pl.mono {L L' : Nat} (hL : L ≤ L') : ∀ {n n' : Nat} {d : D}, n ≤ n' → Pl L n d → Pl L' n' d
  | 0, n', d, _, h => by unfold Pl at h; exact .flat h
  | n + 1, 0, _, hn, _ => by omega
  | n + 1, n' + 1, .tuple xs, hn, h => ⟨by have := h.1; omega, fun x hx => (h.2 x hx).mono hL (by omega)⟩
  | n + 1, n' + 1, .list xs, hn, h => ⟨by have := h.1; omega, fun x hx => (h.2 x hx).mono hL (by omega)⟩
  | n + 1, n' + 1, .none, hn, h => .flat h
  | n + 1, n' + 1, .bool _, hn, h => .flat h
  | n + 1, n' + 1, .int _, hn, h => .flat h
  | n + 1, n' + 1, .str _, hn, h => .flat h
  | n + 1, n' + 1, .cell _, hn, h => by cases h
  | n + 1, n' + 1, .fn _, hn, h => by cases h
  | n + 1, n' + 1, .frz _, hn, h => by cases h
  | n + 1, n' + 1, .adr _, hn, h => by cases h
theorem Pl.fix {L n : Nat} {d : D} (h : Pl L n d) : fixD d = true := ok_fix h.ok
theorem Pl.tup {L n : Nat} {xs : List D} : Pl L (n + 1) (.tuple xs) ↔ xs.length ≤ L ∧ ∀ x ∈ xs, Pl L n x := Iff.rfl
theorem Pl.lis {L n : Nat} {xs : List D} : Pl L (n + 1) (.list xs) ↔ xs.length ≤ L ∧ ∀ x ∈ xs, Pl L n x := Iff.rfl
theorem Pl.int {L n : Nat} {i : Int} : Pl L n (.int i) := .flat rfl
theorem Pl.bool {L n : Nat} {i : Bool} : Pl L n (.bool i) := .flat rfl
theorem Pl.none {L n : Nat} : Pl L n .none := .flat rfl
theorem Pl.str {L n : Nat} {s : Str} (h : PyData.strOk s = true) : Pl L n (.str s) := .flat (by rw [okD_str]; exact h)
theorem w_ixAll {xs : List D} {i : Int} {S : Store} {P : D → Store → Prop} {E : Str → Store → Prop} (h0 : 0 ≤ i) (h1 : i < xs.length) (H : ∀ d ∈ xs, P d S) : W (gIx (.list xs) (.int i)) S P E := by
  obtain ⟨d, hd, hm⟩ := at_int h0 h1
  rw [gIx_l, hd]
  exact H d hm
theorem w_endAny {n : Nat} {d : D} {S : Store} {P : D → Store → Prop} {E : Str → Store → Prop} (e : fixD d = true) (H : P d (S.take n)) : W (endT n d) S P E := by rw [W_endT e]; exact H
theorem eqD_nil {xs : List D} : eqD (.tuple xs) (.tuple []) = xs.isEmpty := by
  cases xs <;> simp [eqD, eqDs]
theorem Upd.take {S S' : Store} {n : Nat} (h : Upd S n S') : Upd S n (S'.take S.length) := by
  rw [← h.len, List.take_length]; exact h
theorem sIx_some {n m : Nat} {i : Int} : HT.sIx n m (some i) = if i < 0 then (i + n).toNat else min i.toNat n := rfl
theorem sIx_none {n m : Nat} : HT.sIx n m none = m := rfl
theorem cut_take {xs : List D} {i : Int} (h : 0 ≤ i) : cutD xs none (some i) = xs.take i.toNat := by
  unfold cutD
  rw [sIx_none, sIx_some, if_neg (by omega)]
  simp
theorem cut_drop {xs : List D} {i : Int} (h : 0 ≤ i) : cutD xs (some i) none = xs.drop i.toNat := by
  unfold cutD
  rw [sIx_none, sIx_some, if_neg (by omega)]
  by_cases hl : i.toNat ≤ xs.length
  · rw [Nat.min_eq_left hl, List.take_of_length_le (by simp)]
  · rw [Nat.min_eq_right (by omega), List.drop_of_length_le (Nat.le_refl _), List.drop_of_length_le (by omega)]
    simp
theorem cut_tail {xs : List D} : cutD xs (some (-1)) none = xs.drop (xs.length - 1) := by
  unfold cutD
  rw [sIx_none, sIx_some, if_pos (by omega)]
  have : (-1 + (xs.length : Int)).toNat = xs.length - 1 := by omega
  rw [this, List.take_of_length_le (by simp)]
theorem w_truly {a b : Bool} {S : Store} {P : D → Store → Prop} {E : Str → Store → Prop} (h : P (.bool (a == b)) S) : W (r__law_truly [.bool a, .bool b]) S P E := w_eq m_truly h
theorem w_if_t {c : Prop} [Decidable c] {m m' : M D} {S : Store} {P : D → Store → Prop} {E : Str → Store → Prop} (h : c) (H : W m S P E) : W (if c then m else m') S P E := by rw [if_pos h]; exact H
theorem Pl.hall {hh e : Int} {ws : List D} (h : isHall (.tuple [.int hh, .tuple ws, .int e]) = true) : Pl 10 4 (.tuple [.int hh, .tuple ws, .int e]) := by
  obtain ⟨_, _, _, e0, b1, b2, b3, b4, b5, b6, _⟩ := hall_of h
  simp at e0
  obtain ⟨rfl, rfl, rfl⟩ := e0
  refine Pl.tup.mpr ⟨by simp, fun x hx => ?_⟩
  simp only [List.mem_cons, List.not_mem_nil, or_false] at hx
  rcases hx with rfl | rfl | rfl
  · exact .int
  · refine Pl.tup.mpr ⟨by omega, fun w hw => ?_⟩
    obtain ⟨p, lo, to, rfl, _⟩ := wall_int (b6 w hw)
    exact Pl.tup.mpr ⟨by simp, by simp [Pl.int]⟩
  · exact .int
theorem ev_ok {b : Int} : Pl 10 3 (evD "through" b) ∧ Pl 10 3 (evD "under" b) ∧ Pl 10 3 (evD "over" b) ∧ Pl 10 3 (evD "screen" b) := by
  have s1 : PyData.strOk "through" = true := by decide +kernel
  have s2 : PyData.strOk "under" = true := by decide +kernel
  have s3 : PyData.strOk "over" = true := by decide +kernel
  have s4 : PyData.strOk "screen" = true := by decide +kernel
  refine ⟨?_, ?_, ?_, ?_⟩ <;> exact Pl.tup.mpr ⟨by simp, by simp [Pl.int, Pl.str s1, Pl.str s2, Pl.str s3, Pl.str s4]⟩
/-- the word of a run is a word -/
theorem run_word {hh e t b r l : Int} (R : RayOk hh t b r l) (he : e ≤ hh) (he0 : 0 ≤ e) {many : Nat} (hm : many ≤ 3) : ∀ (ws acc : List D), (∀ w ∈ ws, isWall hh e w = true) → acc.length + ws.length = many → (∀ x ∈ acc, isEvent ["through"] x = true) → (∀ x ∈ acc, Pl 10 3 x) →
    ∃ w p y, runD hh e t b r l acc ws = .tuple [.tuple w, p, y] ∧ isWord many (.tuple w) = true ∧ (∀ x ∈ w, Pl 10 3 x) ∧ w.length ≤ many + 1 := by
  have bandOk : ∀ p : Int, 0 ≤ p → p ≤ hh → ∀ k ks, k ∈ (ks : List Str) → isEvent ks (evD k (levT t b r l p / (hh * levB t b r l p))) = true := fun p h0 h1 k ks hk => by
    have := R.band h0 h1
    simp [isEvent, evD, hk, isWhole]
    omega
  have fin : ∀ (acc : List D) (k : Str) (p : Int), 0 ≤ p → p ≤ hh → (∀ x ∈ acc, isEvent ["through"] x = true) → (∀ x ∈ acc, Pl 10 3 x) → acc.length ≤ many → k ∈ lastKs (acc.length + 1) many → Pl 10 3 (evD k (levT t b r l p / (hh * levB t b r l p))) →
      isWord many (.tuple (acc ++ [evD k (levT t b r l p / (hh * levB t b r l p))])) = true ∧ (∀ x ∈ acc ++ [evD k (levT t b r l p / (hh * levB t b r l p))], Pl 10 3 x) ∧ (acc ++ [evD k (levT t b r l p / (hh * levB t b r l p))]).length ≤ many + 1 := fun acc k p h0 h1 ha hp hl hk hpk => by
    refine ⟨?_, fun x hx => ?_, by simp; omega⟩
    · have a1 : acc.all (isEvent ["through"]) = true := List.all_eq_true.mpr ha
      have a2 := bandOk p h0 h1 k _ hk
      simp [isWord, a1, a2, hl, ha]
    · rcases List.mem_append.mp hx with hx | hx
      · exact hp x hx
      · rw [List.mem_singleton] at hx
        subst hx
        exact hpk
  intro ws
  induction ws with
  | nil =>
    intro acc _ hl ha hp
    rw [List.length_nil, Nat.add_zero] at hl
    rw [runD_nil]
    exact ⟨_, _, _, rfl, fin acc _ e he0 he ha hp (by omega) (by simp [lastKs, hl]) ev_ok.2.2.2⟩
  | cons w ws ih =>
    intro acc hw hl ha hp
    rw [List.length_cons] at hl
    obtain ⟨p, lo, to, rfl, p1, p2, l1, l2, l3⟩ := wall_int (hw w (by simp))
    have hk : lastKs (acc.length + 1) many = (["under", "over"] : List Str) := by
      unfold lastKs
      rw [if_neg (by omega)]
    unfold runD
    split
    · exact ⟨_, _, _, rfl, fin acc _ p (by omega) (by omega) ha hp (by omega) (by rw [hk]; simp) ev_ok.2.1⟩
    · split
      · exact ⟨_, _, _, rfl, fin acc _ p (by omega) (by omega) ha hp (by omega) (by rw [hk]; simp) ev_ok.2.2.1⟩
      · refine ih _ (fun w h => hw w (List.mem_cons_of_mem _ h)) (by simp; omega) (fun x hx => ?_) fun x hx => ?_
        · rcases List.mem_append.mp hx with hx | hx
          · exact ha x hx
          · rw [List.mem_singleton] at hx
            subst hx
            exact bandOk p (by omega) (by omega) _ _ (by simp)
        · rcases List.mem_append.mp hx with hx | hx
          · exact hp x hx
          · rw [List.mem_singleton] at hx
            subst hx
            exact ev_ok.1
theorem m_bag {S : Store} {ns : List Int} {k : Nat} (hl : ns.length ≤ 63) (hk : k ≤ 100) : W (r__law_bag [script ns, .int (k : Nat)]) S (fun d S' => d = .cell S.length ∧ ∃ ds : List Int, S' = S ++ [.lst (ds.map .int)] ∧ ds.length ≤ 1000) NE := by
  unfold r__law_bag
  rw [W_fnF]
  unfold b__law_bag
  show WS _ [some (script ns), some (.int (k : Nat))] S _ _ _
  trivial
  exact m_draws hl hk
theorem w_bag {S : Store} {ns : List Int} {k : Nat} {P : D → Store → Prop} (hl : ns.length ≤ 63) (hk : k ≤ 100) (H : ∀ S' c, Bag S' c → P (.cell c) S') : W (r__law_bag [script ns, .int (k : Nat)]) S P NE :=
  W_mono (m_bag hl hk) fun d S' ⟨e1, ds, e2, e3⟩ => by
    subst e1 e2
    exact H _ _ ⟨ds, by simp, e3⟩
theorem w_hall {S : Store} {n : Nat} {m : Int} {P : D → Store → Prop} (b : Bag S n) (h0 : 0 ≤ m) (h3 : m ≤ 3) (H : ∀ (hh e : Int) (ws : List D) S', isHall (.tuple [.int hh, .tuple ws, .int e]) = true → (hh = 3 ∨ hh = 6 ∨ hh = 10 ∨ hh = 12 ∨ hh = 60) → 3 ≤ e → e ≤ hh → ws.length ≤ m → (∀ w ∈ ws, isWall hh e w = true) → Bag S' n → P (.tuple [.int hh, .tuple ws, .int e]) S') : W (r__law_hall [.cell n, .int m]) S P NE :=
  W_mono (m_hall b h0 h3) fun d S' ⟨⟨h1, hh, e, ws, e1, h2, h4, h5, h6⟩, hu⟩ => by
    subst e1
    refine H hh e ws S' h1 h2 h4 h5 h6 ?_ (b.upd hu)
    obtain ⟨_, _, _, e0, _, _, _, _, _, b6, _⟩ := hall_of h1
    simp at e0
    obtain ⟨rfl, rfl, rfl⟩ := e0
    exact b6
theorem w_ray {S : Store} {n : Nat} {hh : Int} {Y : List D} {P : D → Store → Prop} (b : Bag S n) (h1 : 1 ≤ hh) (h2 : hh ≤ 60) (H : ∀ (t c r l : Int) S', isRay hh (.tuple [.tuple [.int t, .int c], .tuple [.int r, .int l]]) = true → RayOk hh t c r l → c ≤ 4 → l ≤ 6 → Int.gcd t c = 1 → Int.gcd r l = 1 → Bag S' n → P (.tuple [.tuple [.int t, .int c], .tuple [.int r, .int l]]) S') : W (r__law_ray [.cell n, .tuple (.int hh :: Y)]) S P NE :=
  W_mono (m_ray b h1 h2) fun d S' ⟨⟨h3, t, c, r, l, e1, h4, h5, h6, h7, h8⟩, hu⟩ => by
    subst e1
    exact H t c r l S' h3 h4 h5 h6 h7 h8 (b.upd hu)
theorem Pl.ray {t b r l : Int} : Pl 10 4 (.tuple [.tuple [.int t, .int b], .tuple [.int r, .int l]]) := by
  refine Pl.tup.mpr ⟨by simp, fun x hx => ?_⟩
  simp only [List.mem_cons, List.not_mem_nil, or_false] at hx
  rcases hx with rfl | rfl <;> exact Pl.tup.mpr ⟨by simp, by simp [Pl.int]⟩
theorem cell_last {S : Store} {c : Cell} : (S ++ [c])[S.length]? = some c := by simp
end Z
end
section
set_option maxHeartbeats 4000000
namespace Z
open PySem PySem.Spec L2
local macro_rules | `(tactic| trivial) => `(tactic| repeat (first
  | with_reducible refine WSt.h ?_
  | ((with_reducible apply w_rd_c); · assumption)
  | ((with_reducible apply w_rd_ok); · assumption)
  | ((with_reducible apply w_new); · first | rfl | assumption | (simp; done))
  | ((with_reducible apply len_ok); · rfl)
  | ((with_reducible apply len_eq); · rfl)
  | ((with_reducible apply w_is_int_ok); · assumption)
  | ((with_reducible apply w_is_bool_ok); · assumption)
  | ((with_reducible apply w_is_str_ok); · assumption)
  | ((with_reducible apply w_is_list_ok); · assumption)
  | ((with_reducible apply w_is_tuple_ok); · assumption)
  | ((with_reducible apply w_addT); · first | omega | (simp; omega) | (simp; done))
  | ((with_reducible apply w_addL); · first | omega | (simp; omega) | (simp; done))
  | ((with_reducible apply w_addC); · first | omega | (simp; omega) | (simp; done))
  | ((with_reducible apply w_mul); (· (first | assumption | (refine sm_om ?_; omega))); · (first | assumption | (refine sm_om ?_; omega)))
  | ((with_reducible apply w_div); (· omega); · (first | assumption | (refine sm_om ?_; omega)))
  | ((with_reducible apply w_mod); · first | omega | assumption)
  | ((with_reducible apply w_eqd); (· first | assumption | (simp; done) | (simp [okDs_cons']; done)); · first | assumption | (simp; done) | (simp [okDs_cons']; done))
  | ((with_reducible apply w_ned); (· first | assumption | (simp; done) | (simp [okDs_cons']; done)); · first | assumption | (simp; done) | (simp [okDs_cons']; done))
  | ((with_reducible apply w_ixt); · first | exact at_0 | exact at_1 | exact at_2 | exact at_3 | assumption)
  | ((with_reducible apply w_ixl); · first | exact at_0 | exact at_1 | exact at_2 | exact at_3 | assumption)
  | ((with_reducible apply w_ixf); · first | exact at_0 | exact at_1 | exact at_2 | exact at_3 | assumption)
  | ((with_reducible apply w_rng); · first | omega | (simp; omega) | (simp; done))
  | ((with_reducible apply w_endT); · first | rfl | assumption | (simp; done))
  | ((with_reducible apply w_endL); · first | rfl | assumption | (simp; done))
  | ((with_reducible apply if_d1); · first | assumption | omega)
  | ((with_reducible apply if_d0); · first | assumption | omega)
  | ((with_reducible apply if_n1); · first | assumption | omega)
  | ((with_reducible apply if_n0); · first | assumption | omega)))
section
variable {S : Store} {P : D → Store → Prop} {E : Str → Store → Prop}
theorem w_err {α : Type} {m : M α} {c : Str} {P : α → Store → Prop} (e : m = raise c) (H : E c S) : W m S P E := by rw [e]; exact H
theorem eHof_ap {n nn : Nat} {js : List Nat} {fb : BE} {G : (List D → M D) → List D → M D} {fs : BA} {env : Ev} : eHof n nn js fb G fs env = (fs env >>= fun ds => if ds.length = n then G (fun as => fb (lamEv nn js env as)) ds else no) := rfl
instance i_hof {n nn : Nat} {js : List Nat} {fb : BE} {G : (List D → M D) → List D → M D} {fs : BA} {env : Ev} : WSt (W (eHof n nn js fb G fs env) S P E) (W (fs env) S (fun ds S1 => ds.length = n ∧ W (G (fun as => fb (lamEv nn js env as)) ds) S1 P E) E) := ⟨fun H => by
  rw [eHof_ap, W_bind]
  refine W_mono H fun as S1 h => ?_
  rw [if_pos h.1]
  exact h.2⟩
theorem eCallF_ap {t : FTab} {v : BE} {fs : BA} {env : Ev} : eCallF t v fs env = (v env >>= fun d => look t d >>= fun p => fs env >>= fun as => if as.length = p.1 then p.2 as else no) := rfl
instance i_callF {t : FTab} {v : BE} {fs : BA} {env : Ev} : WSt (W (eCallF t v fs env) S P E) (W (v env) S (fun d S1 => W (look t d) S1 (fun p S2 => W (fs env) S2 (fun as S3 => as.length = p.1 ∧ W (p.2 as) S3 P E) E) E) E) := ⟨fun H => by
  rw [eCallF_ap, W_bind]
  refine W_mono H fun d S1 h => ?_
  rw [W_bind]
  refine W_mono h fun p S2 h => ?_
  rw [W_bind]
  refine W_mono h fun as S3 h => ?_
  rw [if_pos h.1]
  exact h.2⟩
theorem w_look {t : FTab} {y : Str} {p : Nat × (List D → M D)} {P : Nat × (List D → M D) → Store → Prop} (e : t.lookup y = some p) (H : P p S) : W (look t (.fn y)) S P E := by
  unfold look
  dsimp only
  rw [e]
  exact H
/-- the class names -/
def errN : List Str := ["InvalidHall", "InvalidRay", "InvalidWord", "InvalidWall", "InvalidPaper", "InvalidFacts", "InvalidDeed", "InvalidText", "Unlike", "NothingToUndo"]
theorem w_lawerr {g : List D → M D} (h : W (g []) S (fun _ S' => P (.str "") S') (fun c S' => c ∈ errN ∧ P (.str (wdE c)) S')) : W (G__law_error g []) S P E := by
  have h0 : G__law_error g [] S = match g [] S with
    | .ok _ S' => .ok (.str "") S'
    | .err c S' => if c ∈ errN then .ok (.str (wdE c)) S' else .no
    | .no => .no := rfl
  unfold W at h ⊢
  rw [h0]
  cases e : g [] S with
  | ok d S' => rw [e] at h; exact h
  | err c S' =>
    rw [e] at h
    dsimp only at h ⊢
    rw [if_pos h.1]
    exact h.2
  | no => rw [e] at h; exact h.elim
theorem refM_nil {g : List D → M D} {s : Str} (hs : PyData.strOk s = true) : ∀ (xs : List D) (S : Store), (∀ d ∈ xs, ∀ S, W (g [d]) S (fun _ _ => False) (fun c S' => c ∈ errN ∧ wdE c = s ∧ S' = S)) → refM G__law_error g (.str s) xs [] S = .ok [] S
  | [], S, _ => rfl
  | d :: xs, S, h => by
    unfold refM
    have e : W (G__law_error (fun _ => g [d]) [] >>= fun r => g2 gNe r (.str s)) S (fun r S' => r = .bool false ∧ S' = S) (fun _ _ => False) := by
      rw [W_bind]
      refine w_lawerr (W_mono (h d (by simp) S) (fun _ _ z => z.elim) fun c S' z => ⟨z.1, ?_⟩)
      obtain ⟨_, z2, z3⟩ := z
      subst z3
      rw [z2]
      have o : okD 64 (.str s) = true := by rw [okD_str]; exact hs
      trivial
      exact ⟨by simp [eqD], rfl⟩
    unfold W at e
    cases e2 : (G__law_error (fun _ => g [d]) [] >>= fun r => g2 gNe r (.str s)) S with
    | ok r S' =>
      rw [e2] at e
      obtain ⟨rfl, rfl⟩ := e
      exact refM_nil hs xs _ fun d hd => h d (by simp [hd])
    | err c S' => rw [e2] at e; exact e.elim
    | no => rw [e2] at e; exact e.elim
theorem w_refused {g : List D → M D} {xs : List D} {s : Str} (hs : PyData.strOk s = true) (hl : xs.length ≤ 1000000) (h : ∀ d ∈ xs, ∀ S, W (g [d]) S (fun _ _ => False) (fun c S' => c ∈ errN ∧ wdE c = s ∧ S' = S)) (H : P (.bool true) S) : W (G__law_all_refused g [.list xs, .str s]) S P E := by
  unfold G__law_all_refused G_refused W
  dsimp only
  rw [if_pos hl, bd_ap, refM_nil hs xs S h]
  have e : (g2 gEq (.list []) (.list [])) S = .ok (.bool true) S := rfl
  dsimp only
  rw [e]
  dsimp only
  have e2 : endT S.length (.bool true) S = .ok (.bool true) S := by
    unfold endT
    simp [fixD]
  rw [e2]
  exact H
end
end Z
end
section
set_option maxHeartbeats 4000000
namespace Z
open PySem PySem.Spec L2
local macro_rules | `(tactic| trivial) => `(tactic| repeat (first
  | with_reducible refine WSt.h ?_
  | ((with_reducible apply w_rd_c); · assumption)
  | ((with_reducible apply w_rd_ok); · assumption)
  | ((with_reducible apply w_new); · first | rfl | assumption | (simp; done))
  | ((with_reducible apply len_ok); · rfl)
  | ((with_reducible apply len_eq); · rfl)
  | ((with_reducible apply w_is_int_ok); · assumption)
  | ((with_reducible apply w_is_bool_ok); · assumption)
  | ((with_reducible apply w_is_str_ok); · assumption)
  | ((with_reducible apply w_is_list_ok); · assumption)
  | ((with_reducible apply w_is_tuple_ok); · assumption)
  | ((with_reducible apply w_addT); · first | omega | (simp; omega) | (simp; done))
  | ((with_reducible apply w_addL); · first | omega | (simp; omega) | (simp; done))
  | ((with_reducible apply w_addC); · first | omega | (simp; omega) | (simp; done))
  | ((with_reducible apply w_mul); (· (first | assumption | (refine sm_om ?_; omega))); · (first | assumption | (refine sm_om ?_; omega)))
  | ((with_reducible apply w_div); (· omega); · (first | assumption | (refine sm_om ?_; omega)))
  | ((with_reducible apply w_mod); · first | omega | assumption)
  | ((with_reducible apply w_eqd); (· first | assumption | (simp; done) | (simp [okDs_cons']; done)); · first | assumption | (simp; done) | (simp [okDs_cons']; done))
  | ((with_reducible apply w_ned); (· first | assumption | (simp; done) | (simp [okDs_cons']; done)); · first | assumption | (simp; done) | (simp [okDs_cons']; done))
  | ((with_reducible apply w_ixt); · first | exact at_0 | exact at_1 | exact at_2 | exact at_3 | assumption)
  | ((with_reducible apply w_ixl); · first | exact at_0 | exact at_1 | exact at_2 | exact at_3 | assumption)
  | ((with_reducible apply w_ixf); · first | exact at_0 | exact at_1 | exact at_2 | exact at_3 | assumption)
  | ((with_reducible apply w_rng); · first | omega | (simp; omega) | (simp; done))
  | ((with_reducible apply w_endT); · first | rfl | assumption | (simp; done))
  | ((with_reducible apply w_endL); · first | rfl | assumption | (simp; done))
  | ((with_reducible apply if_d1); · first | assumption | omega)
  | ((with_reducible apply if_d0); · first | assumption | omega)
  | ((with_reducible apply if_n1); · first | assumption | omega)
  | ((with_reducible apply if_n0); · first | assumption | omega)))
theorem m_plowest {t b : Int} (hb : 0 < b) (hs : small b = true) : r_lowest [.int t, .int b] = pure (lowD t b) := by
  refine W_eq fun S => ?_
  unfold r_lowest
  rw [W_fnT]
  unfold b_lowest
  show WS _ [some (.int t), some (.int b), none] S _ _ _
  have hg : 0 < Int.gcd t b := Int.gcd_pos_iff.mpr (.inr (by omega))
  have hle : ((Int.gcd t b : Nat) : Int) ≤ b := Int.le_of_dvd hb (Int.gcd_dvd_right ..)
  have hs2 : small ((Int.gcd t b : Nat) : Int) = true := by
    unfold small at hs ⊢
    have := of_decide_eq_true hs
    exact decide_eq_true (by omega)
  trivial
  refine w_eq m_divisor ?_
  trivial
  exact ⟨rfl, by simp⟩
section
variable {hh t b r l : Int}
theorem RayOk.level (R : RayOk hh t b r l) {p : Int} (hp : 0 ≤ p) (hp2 : p ≤ 60) : r_level_at [.tuple [.tuple [.int t, .int b], .tuple [.int r, .int l]], .int p] = pure (.tuple [.int (levT t b r l p), .int (Z.levB t b r l p)]) := by
  refine W_eq fun S => ?_
  unfold r_level_at
  rw [W_fnT]
  unfold b_level_at
  show WS _ [some (.tuple [.tuple [.int t, .int b], .tuple [.int r, .int l]]), some (.int p), none, none, none, none] S _ _ _
  have s1 := R.st.small
  have s2 := R.sl.small
  have s3 := R.sr.small
  have s4 : small p = true := (Sm.of 6 (b := 60) (by omega)).small
  have s5 : Sm 506 (r * p) := Sm.mul R.sr (.of 6 (b := 60) (by omega))
  have s6 := s5.small
  have s7 := R.sb.small
  have s8 : Sm 1000 (b * l) := R.sb.mul R.sl
  trivial
  refine w_eq (m_plowest R.bl s8.small) ?_
  rw [lowD]
  trivial
  exact ⟨rfl, by simp⟩
theorem RayOk.bandP (R : RayOk hh t b r l) {p : Int} : r_band_at [.int hh, .tuple [.int (levT t b r l p), .int (Z.levB t b r l p)]] = pure (.int (levT t b r l p / (hh * Z.levB t b r l p))) := by
  refine W_eq fun S => ?_
  unfold r_band_at
  rw [W_fnT]
  unfold b_band_at
  show WS _ [some (.int hh), some (.tuple [.int (levT t b r l p), .int (Z.levB t b r l p)])] S _ _ _
  have q := R.q (p := p)
  have s1 : small hh = true := (Sm.of 6 (b := 60) (by have := R.h1; have := R.h2; omega)).small
  have s2 := (R.levB (p := p)).2.small
  have s3 : small (hh * Z.levB t b r l p) = true := (Sm.mul (.of 6 (b := 60) (by have := R.h1; have := R.h2; omega)) (R.levB (p := p)).2).small
  trivial
  exact ⟨rfl, by simp⟩
theorem RayOk.heightP (R : RayOk hh t b r l) {p : Int} (hp : 0 ≤ p) (hp2 : p ≤ hh) : r_height_at [.int hh, .tuple [.int (levT t b r l p), .int (Z.levB t b r l p)]] = pure (foldD hh (levT t b r l p) (Z.levB t b r l p)) := by
  refine W_eq fun S => ?_
  unfold r_height_at
  rw [W_fnT]
  unfold b_height_at
  show WS _ [some (.int hh), some (.tuple [.int (levT t b r l p), .int (Z.levB t b r l p)]), none, none, none] S _ _ _
  have q := R.q (p := p)
  have h1 := R.h1
  have h2 := R.h2
  have s1 : small hh = true := (Sm.of 6 (b := 60) (by omega)).small
  have s2 := (R.levB (p := p)).2.small
  obtain ⟨lb, _⟩ := R.levB (p := p)
  obtain ⟨b1, b2⟩ := R.band hp hp2
  have hb := R.bandP (p := p)
  have e : ∀ k : Int, -1 ≤ k → k ≤ 3 → small k = true ∧ small (k * hh) = true := fun k k1 k2 => ⟨(Sm.of 6 (b := 60) (by omega)).small, (Sm.mul (j := 6) (k := 6) (.of 6 (b := 60) (by omega)) (.of 6 (b := 60) (by omega))).small⟩
  rw [foldD_eq]
  unfold foldF
  generalize levT t b r l p / (hh * Z.levB t b r l p) = k at *
  generalize levT t b r l p = T at *
  generalize Z.levB t b r l p = B at *
  obtain ⟨e1, e2⟩ := e k b1 (by omega)
  obtain ⟨e3, e4⟩ := e (k + 1) (by omega) (by omega)
  have m1 := m_plowest (t := T - k * hh * B) lb s2
  have m2 := m_plowest (t := (k + 1) * hh * B - T) lb s2
  trivial
  refine w_eq hb ?_
  trivial
  by_cases c : k % 2 = 0
  · trivial
    refine w_eq m1 ?_
    rw [Int.mul_assoc, if_pos c]
    rw [lowD]
    trivial
    exact ⟨rfl, by simp⟩
  · trivial
    refine w_eq m2 ?_
    rw [Int.mul_assoc, if_neg c]
    rw [lowD]
    trivial
    exact ⟨rfl, by simp⟩
end
end Z
end
section
set_option maxHeartbeats 4000000
namespace Z
open PySem PySem.Spec L2
local macro_rules | `(tactic| trivial) => `(tactic| repeat (first
  | with_reducible refine WSt.h ?_
  | ((with_reducible apply w_rd_c); · assumption)
  | ((with_reducible apply w_rd_ok); · assumption)
  | ((with_reducible apply w_new); · first | rfl | assumption | (simp; done))
  | ((with_reducible apply len_ok); · rfl)
  | ((with_reducible apply len_eq); · rfl)
  | ((with_reducible apply w_is_int_ok); · assumption)
  | ((with_reducible apply w_is_bool_ok); · assumption)
  | ((with_reducible apply w_is_str_ok); · assumption)
  | ((with_reducible apply w_is_list_ok); · assumption)
  | ((with_reducible apply w_is_tuple_ok); · assumption)
  | ((with_reducible apply w_addT); · first | omega | (simp; omega) | (simp; done))
  | ((with_reducible apply w_addL); · first | omega | (simp; omega) | (simp; done))
  | ((with_reducible apply w_addC); · first | omega | (simp; omega) | (simp; done))
  | ((with_reducible apply w_mul); (· (first | assumption | (refine sm_om ?_; omega))); · (first | assumption | (refine sm_om ?_; omega)))
  | ((with_reducible apply w_div); (· omega); · (first | assumption | (refine sm_om ?_; omega)))
  | ((with_reducible apply w_mod); · first | omega | assumption)
  | ((with_reducible apply w_eqd); (· first | assumption | (simp; done) | (simp [okDs_cons']; done)); · first | assumption | (simp; done) | (simp [okDs_cons']; done))
  | ((with_reducible apply w_ned); (· first | assumption | (simp; done) | (simp [okDs_cons']; done)); · first | assumption | (simp; done) | (simp [okDs_cons']; done))
  | ((with_reducible apply w_ixt); · first | exact at_0 | exact at_1 | exact at_2 | exact at_3 | assumption)
  | ((with_reducible apply w_ixl); · first | exact at_0 | exact at_1 | exact at_2 | exact at_3 | assumption)
  | ((with_reducible apply w_ixf); · first | exact at_0 | exact at_1 | exact at_2 | exact at_3 | assumption)
  | ((with_reducible apply w_rng); · first | omega | (simp; omega) | (simp; done))
  | ((with_reducible apply w_endT); · first | rfl | assumption | (simp; done))
  | ((with_reducible apply w_endL); · first | rfl | assumption | (simp; done))
  | ((with_reducible apply if_d1); · first | assumption | omega)
  | ((with_reducible apply if_d0); · first | assumption | omega)
  | ((with_reducible apply if_n1); · first | assumption | omega)
  | ((with_reducible apply if_n0); · first | assumption | omega)))
def prunB1 : BS := (sSeq (sSet 9 (eCall 2 r_level_at (aCons (eVar 1) (aCons (eVar 6) aNil)))) (sSeq (sPar 10 11 (eCall 2 r_band_at (aCons (eVar 2) (aCons (eVar 9) aNil))) (eCall 2 r_height_at (aCons (eVar 2) (aCons (eVar 9) aNil)))) (sSeq (sIf (bOr (tB1 (e2 (g2 gLt) (e2 (g2 gIx) (eVar 11) (eC (.int 0))) (e2 (g2 gMul) (eVar 7) (e2 (g2 gIx) (eVar 11) (eC (.int 1)))))) (tB1 (e2 (g2 gGt) (e2 (g2 gIx) (eVar 11) (eC (.int 0))) (e2 (g2 gMul) (eVar 8) (e2 (g2 gIx) (eVar 11) (eC (.int 1))))))) (sSeq (sRet (eTup (aCons (e2 (g2 gAdd) (eVar 5) (eTup (aCons (eTup (aCons (eIf (tB1 (e2 (g2 gLt) (e2 (g2 gIx) (eVar 11) (eC (.int 0))) (e2 (g2 gMul) (eVar 7) (e2 (g2 gIx) (eVar 11) (eC (.int 1)))))) (eC (.str "under")) (eC (.str "over"))) (aCons (eVar 10) aNil))) aNil))) (aCons (eTup (aCons (eVar 6) (aCons (eVar 11) aNil))) aNil)))) sNil) sNil) (sSeq (sSet 5 (e2 (g2 gAdd) (eVar 5) (eTup (aCons (eTup (aCons (eC (.str "through")) (aCons (eVar 10) aNil))) aNil)))) sNil))))
theorem prun_b (i : Nat) : b_run i = (sSeq (sAsg (.tup [(.name 2), (.name 3), (.name 4)]) (eVar 0)) (sSeq (sSet 5 (eTup aNil)) (sSeq (sFor (iSeq (eVar 3)) (.tup [(.name 6), (.name 7), (.name 8)]) prunB1) (sSeq (sSet 9 (eCall 2 r_level_at (aCons (eVar 1) (aCons (eVar 4) aNil)))) (sSeq (sRet (eTup (aCons (e2 (g2 gAdd) (eVar 5) (eTup (aCons (eTup (aCons (eC (.str "screen")) (aCons (eCall 2 r_band_at (aCons (eVar 2) (aCons (eVar 9) aNil))) aNil))) aNil))) (aCons (eTup (aCons (eVar 4) (aCons (eCall 2 r_height_at (aCons (eVar 2) (aCons (eVar 9) aNil))) aNil))) aNil)))) sNil))))) := rfl
section
variable {hh t b r l : Int}
/-- (word, place of the end, height there) -/
def runT (hh e t b r l : Int) : List D → List D → List D × Int × D
  | acc, .tuple [.int p, .int lo, .int to] :: ws =>
    if lowT (foldF hh (levT t b r l p) (levB t b r l p)) (levB t b r l p) < lo * lowB (foldF hh (levT t b r l p) (levB t b r l p)) (levB t b r l p) then
      (acc ++ [evD "under" (levT t b r l p / (hh * levB t b r l p))], p, foldD hh (levT t b r l p) (levB t b r l p))
    else if to * lowB (foldF hh (levT t b r l p) (levB t b r l p)) (levB t b r l p) < lowT (foldF hh (levT t b r l p) (levB t b r l p)) (levB t b r l p) then
      (acc ++ [evD "over" (levT t b r l p / (hh * levB t b r l p))], p, foldD hh (levT t b r l p) (levB t b r l p))
    else runT hh e t b r l (acc ++ [evD "through" (levT t b r l p / (hh * levB t b r l p))]) ws
  | acc, _ => (acc ++ [evD "screen" (levT t b r l e / (hh * levB t b r l e))], e, foldD hh (levT t b r l e) (levB t b r l e))
theorem runT_nil {e : Int} {acc : List D} : runT hh e t b r l acc [] = (acc ++ [evD "screen" (levT t b r l e / (hh * levB t b r l e))], e, foldD hh (levT t b r l e) (levB t b r l e)) := by simp [runT]
theorem runD_T {e : Int} : ∀ (ws acc : List D), (∀ w ∈ ws, isWall hh e w = true) → runD hh e t b r l acc ws = .tuple [.tuple (runT hh e t b r l acc ws).1, .int (runT hh e t b r l acc ws).2.1, (runT hh e t b r l acc ws).2.2]
  | [], acc, _ => by simp [runD, runT]
  | w :: ws, acc, hw => by
    obtain ⟨p, lo, to, rfl, _⟩ := wall_int (hw w (by simp))
    rw [runD, runT]
    split
    · rfl
    · split
      · rfl
      · exact runD_T ws _ fun w h => hw w (List.mem_cons_of_mem _ h)
def ifBool (c : Prop) [Decidable c] (a b : D) : D := if c then a else b
theorem prun_loop (R : RayOk hh t b r l) {e : Int} (he : e ≤ hh) {H W : D} {S : Store} : ∀ (ws acc : List D) (x6 x7 x8 x9 x10 x11 : Option D), (∀ w ∈ ws, isWall hh e w = true) → acc.length + ws.length ≤ 1000 →
    WS (forM (fun _ => true) (.tup [.name 6, .name 7, .name 8]) prunB1 ws) [some H, some (.tuple [.tuple [.int t, .int b], .tuple [.int r, .int l]]), some (.int hh), some W, some (.int e), some (.tuple acc), x6, x7, x8, x9, x10, x11] S
      (fun v S' => ∃ (acc' : List D) (x6 x7 x8 x9 x10 x11 : Option D), v = [some H, some (.tuple [.tuple [.int t, .int b], .tuple [.int r, .int l]]), some (.int hh), some W, some (.int e), some (.tuple acc'), x6, x7, x8, x9, x10, x11] ∧ S' = S ∧ acc'.length ≤ 1000 ∧ runT hh e t b r l acc ws = runT hh e t b r l acc' [])
      (fun d S' => d = .tuple [.tuple (runT hh e t b r l acc ws).1, .tuple [.int (runT hh e t b r l acc ws).2.1, (runT hh e t b r l acc ws).2.2]] ∧ S' = S) NE
  | [], acc, x6, x7, x8, x9, x10, x11, _, hl => WSF_nil rfl ⟨acc, _, _, _, _, _, _, rfl, rfl, by simpa using hl, rfl⟩
  | w :: ws, acc, x6, x7, x8, x9, x10, x11, hw, hl => by
    obtain ⟨p, lo, to, rfl, p1, p2, l1, l2, l3⟩ := wall_int (hw w (by simp))
    rw [List.length_cons] at hl
    have h2 := R.h2
    refine WSF_cons rfl (env1 := [some H, some (.tuple [.tuple [.int t, .int b], .tuple [.int r, .int l]]), some (.int hh), some W, some (.int e), some (.tuple acc), some (.int p), some (.int lo), some (.int to), x9, x10, x11]) rfl ?_
    have mL := R.level (p := p) (by omega) (by omega)
    have mB := R.bandP (p := p)
    have mH := R.heightP (p := p) (by omega) (by omega)
    obtain ⟨f1, f2, f3, f4, f5⟩ := R.fold (p := p)
    have s1 := f2.small
    have s3 := f4.small
    have s4 : small lo = true := (Sm.of 6 (b := 60) (by omega)).small
    have s5 : small to = true := (Sm.of 6 (b := 60) (by omega)).small
    have ih := fun acc x9 x10 x11 => prun_loop R he (H := H) (W := W) (S := S) ws acc (some (.int p)) (some (.int lo)) (some (.int to)) x9 x10 x11 fun w h => hw w (List.mem_cons_of_mem _ h)
    rw [runT, foldD_eq, lowD]
    generalize hF : (fun v S' => WS (forM (fun _ => true) (.tup [.name 6, .name 7, .name 8]) prunB1 ws) v S' _ _ _) = F
    have g0 : acc.length + [evD "through" (levT t b r l p / (hh * Z.levB t b r l p))].length ≤ 1000000 := by simp; omega
    rw [foldD_eq, lowD] at mH
    generalize lowT (foldF hh (levT t b r l p) (Z.levB t b r l p)) (Z.levB t b r l p) = T at *
    generalize lowB (foldF hh (levT t b r l p) (Z.levB t b r l p)) (Z.levB t b r l p) = B at *
    unfold prunB1
    trivial
    refine w_eq mL ?_
    trivial
    refine w_eq mB ?_
    trivial
    refine w_eq mH ?_
    trivial
    by_cases c1 : T < lo * B
    · trivial
      rw [if_pos c1]
      exact ⟨rfl, rfl⟩
    · trivial
      by_cases c2 : to * B < T
      · have c2' : T > to * B := c2
        trivial
        rw [if_neg c1, if_pos c2]
        exact ⟨rfl, rfl⟩
      · have c2' : ¬ T > to * B := c2
        trivial
        rw [← hF]
        simp only [if_neg c1, if_neg c2]
        exact ih _ _ _ _ (by simp; omega)
theorem runT_fix {e : Int} : ∀ (ws acc : List D), (∀ w ∈ ws, isWall hh e w = true) → fixDs acc = true → fixDs (runT hh e t b r l acc ws).1 = true ∧ fixD (runT hh e t b r l acc ws).2.2 = true
  | [], acc, _, h => by simp [runT, h, evD, foldD_eq, lowD]
  | w :: ws, acc, hw, h => by
    obtain ⟨p, lo, to, rfl, _⟩ := wall_int (hw w (by simp))
    rw [runT]
    split
    · simp [h, evD, foldD_eq, lowD]
    · split
      · simp [h, evD, foldD_eq, lowD]
      · exact runT_fix ws _ (fun w h => hw w (List.mem_cons_of_mem _ h)) (by simp [h, evD])
theorem m_prun (R : RayOk hh t b r l) {e : Int} (he : e ≤ hh) (he0 : 0 ≤ e) {ws : List D} (hw : ∀ w ∈ ws, isWall hh e w = true) (hl : ws.length ≤ 3) :
    r_run [.tuple [.int hh, .tuple ws, .int e], .tuple [.tuple [.int t, .int b], .tuple [.int r, .int l]]] = pure (.tuple [.tuple (runT hh e t b r l [] ws).1, .tuple [.int (runT hh e t b r l [] ws).2.1, (runT hh e t b r l [] ws).2.2]]) := by
  refine W_eq fun S => ?_
  unfold r_run
  rw [W_fnT, prun_b]
  have key := fun x6 x7 x8 x9 x10 x11 => prun_loop R he (H := .tuple [.int hh, .tuple ws, .int e]) (W := .tuple ws) (S := S) ws [] x6 x7 x8 x9 x10 x11 hw (by simp; omega)
  obtain ⟨k1, k2⟩ := runT_fix (hh := hh) (t := t) (b := b) (r := r) (l := l) ws [] hw rfl
  have kf : fixD (.tuple [.tuple (runT hh e t b r l [] ws).1, .tuple [.int (runT hh e t b r l [] ws).2.1, (runT hh e t b r l [] ws).2.2]]) = true := by simp [k1, k2]
  show WS _ [some (.tuple [.int hh, .tuple ws, .int e]), some (.tuple [.tuple [.int t, .int b], .tuple [.int r, .int l]]), none, none, none, none, none, none, none, none, none, none] S _ _ _
  trivial
  refine WS_mono (key _ _ _ _ _ _) (fun v S' hv => ?_) fun d S' hd => ?_
  · obtain ⟨acc, x6, x7, x8, x9, x10, x11, rfl, rfl, hacc, e1⟩ := hv
    have mL := R.level (p := e) (by omega) (by have := R.h2; omega)
    have mB := R.bandP (p := e)
    have mH := R.heightP (p := e) (by omega) (by omega)
    rw [e1, runT_nil] at kf ⊢
    trivial
    refine w_eq mL ?_
    trivial
    refine w_eq mB ?_
    trivial
    have g0 : acc.length + [D.tuple [D.str "screen", D.int (levT t b r l e / (hh * Z.levB t b r l e))]].length ≤ 1000000 := by simp; omega
    trivial
    refine w_eq mH ?_
    trivial
    exact ⟨rfl, by simp⟩
  · obtain ⟨rfl, rfl⟩ := hd
    rw [W_endT kf]
    exact ⟨rfl, by simp⟩
end
end Z
end
section
set_option maxHeartbeats 4000000
namespace Z
open PySem PySem.Spec L2
local macro_rules | `(tactic| trivial) => `(tactic| repeat (first
  | with_reducible refine WSt.h ?_
  | ((with_reducible apply w_rd_c); · assumption)
  | ((with_reducible apply w_rd_ok); · assumption)
  | ((with_reducible apply w_new); · first | rfl | assumption | (simp; done))
  | ((with_reducible apply len_ok); · rfl)
  | ((with_reducible apply len_eq); · rfl)
  | ((with_reducible apply w_is_int_ok); · assumption)
  | ((with_reducible apply w_is_bool_ok); · assumption)
  | ((with_reducible apply w_is_str_ok); · assumption)
  | ((with_reducible apply w_is_list_ok); · assumption)
  | ((with_reducible apply w_is_tuple_ok); · assumption)
  | ((with_reducible apply w_addT); · first | omega | (simp; omega) | (simp; done))
  | ((with_reducible apply w_addL); · first | omega | (simp; omega) | (simp; done))
  | ((with_reducible apply w_addC); · first | omega | (simp; omega) | (simp; done))
  | ((with_reducible apply w_mul); (· (first | assumption | (refine sm_om ?_; omega))); · (first | assumption | (refine sm_om ?_; omega)))
  | ((with_reducible apply w_div); (· omega); · (first | assumption | (refine sm_om ?_; omega)))
  | ((with_reducible apply w_mod); · first | omega | assumption)
  | ((with_reducible apply w_eqd); (· first | assumption | (simp; done) | (simp [okDs_cons']; done)); · first | assumption | (simp; done) | (simp [okDs_cons']; done))
  | ((with_reducible apply w_ned); (· first | assumption | (simp; done) | (simp [okDs_cons']; done)); · first | assumption | (simp; done) | (simp [okDs_cons']; done))
  | ((with_reducible apply w_ixt); · first | exact at_0 | exact at_1 | exact at_2 | exact at_3 | assumption)
  | ((with_reducible apply w_ixl); · first | exact at_0 | exact at_1 | exact at_2 | exact at_3 | assumption)
  | ((with_reducible apply w_ixf); · first | exact at_0 | exact at_1 | exact at_2 | exact at_3 | assumption)
  | ((with_reducible apply w_rng); · first | omega | (simp; omega) | (simp; done))
  | ((with_reducible apply w_endT); · first | rfl | assumption | (simp; done))
  | ((with_reducible apply w_endL); · first | rfl | assumption | (simp; done))
  | ((with_reducible apply if_d1); · first | assumption | omega)
  | ((with_reducible apply if_d0); · first | assumption | omega)
  | ((with_reducible apply if_n1); · first | assumption | omega)
  | ((with_reducible apply if_n0); · first | assumption | omega)))
theorem m_need_ray {n : Nat} {hh : Int} {y z v : D} (h : okD (n + 2) v = true) (h1 : 1 ≤ hh) (h2 : hh ≤ 60) : r_need_ray [.tuple [.int hh, y, z], v] = if isRay hh v = true then pure .none else raise "InvalidRay" := by
  cases hv : isRay hh v with
  | true =>
    rw [if_pos rfl]
    refine W_eq fun S => ?_
    unfold r_need_ray
    rw [W_fnT]
    simp [b_need_ray, N_need_ray, m_fits_ray h h1 h2, hv]
  | false =>
    rw [if_neg (by decide)]
    refine W_eqE fun S => ?_
    unfold r_need_ray
    rw [W_fnT]
    simp [b_need_ray, N_need_ray, m_fits_ray h h1 h2, hv]
section
variable {hh t b r l : Int}
def hgT (hh t b r l p : Int) : Int := lowT (foldF hh (levT t b r l p) (Z.levB t b r l p)) (Z.levB t b r l p)
def hgB (hh t b r l p : Int) : Int := lowB (foldF hh (levT t b r l p) (Z.levB t b r l p)) (Z.levB t b r l p)
/-- a run's word -/
theorem run_shape (R : RayOk hh t b r l) {e : Int} (he : e ≤ hh) (he0 : 0 ≤ e) : ∀ (ws acc : List D), (∀ w ∈ ws, isWall hh e w = true) →
    ∃ (pre : List Int) (k : Str) (bd p q1 q2 : Int), runT hh e t b r l acc ws = (acc ++ pre.map (evD "through") ++ [evD k bd], p, .tuple [.int q1, .int q2]) ∧ (∀ c ∈ pre, -1 ≤ c ∧ c ≤ 2) ∧ -1 ≤ bd ∧ bd ≤ 2 ∧ ((pre.length = ws.length ∧ k = "screen") ∨ (pre.length < ws.length ∧ (k = "under" ∨ k = "over")))
  | [], acc, _ => by
    obtain ⟨b1, b2⟩ := R.band he0 he
    exact ⟨[], "screen", _, e, hgT hh t b r l e, hgB hh t b r l e, by rw [runT_nil, foldD_eq, lowD]; simp [hgT, hgB], by simp, b1, b2, by simp⟩
  | w :: ws, acc, hw => by
    obtain ⟨p, lo, to, rfl, p1, p2, _⟩ := wall_int (hw w (by simp))
    obtain ⟨b1, b2⟩ := R.band (p := p) (by omega) (by omega)
    rw [runT]
    split
    · exact ⟨[], "under", _, p, hgT hh t b r l p, hgB hh t b r l p, by rw [foldD_eq, lowD]; simp [hgT, hgB], by simp, b1, b2, by simp⟩
    · split
      · exact ⟨[], "over", _, p, hgT hh t b r l p, hgB hh t b r l p, by rw [foldD_eq, lowD]; simp [hgT, hgB], by simp, b1, b2, by simp⟩
      · obtain ⟨pre, k, bd, p', q1, q2, e1, e2, e3, e4, e5⟩ := run_shape R he he0 ws (acc ++ [evD "through" (levT t b r l p / (hh * Z.levB t b r l p))]) fun w h => hw w (List.mem_cons_of_mem _ h)
        refine ⟨levT t b r l p / (hh * Z.levB t b r l p) :: pre, k, bd, p', q1, q2, by rw [e1]; simp, ?_, e3, e4, by simpa using e5⟩
        intro c hc
        rcases List.mem_cons.mp hc with z | z
        · rw [z]; exact ⟨b1, b2⟩
        · exact e2 c z
end
/-- the words of told events -/
def wordD (pre : List Int) (k : Str) (bd : Int) : D := .tuple (pre.map (evD "through") ++ [evD k bd])
def EndOk (n many : Nat) (k : Str) : Prop := (n = many ∧ k = "screen") ∨ (n < many ∧ (k = "under" ∨ k = "over"))
theorem word_is {pre : List Int} {k : Str} {bd : Int} {many : Nat} (h : ∀ c ∈ pre, -9 ≤ c ∧ c ≤ 9) (hk : EndOk pre.length many k) : isWord many (wordD pre k bd) = (decide (-9 ≤ bd) && decide (bd ≤ 9)) := by
  have h1 : (pre.map (evD "through")).all (isEvent ["through"]) = true := List.all_eq_true.mpr fun x hx => by
    obtain ⟨c, hc, rfl⟩ := List.mem_map.mp hx
    have := h c hc
    simp [isEvent, evD, isWhole]
    omega
  have h2 : isEvent (lastKs (pre.length + 1) many) (evD k bd) = (decide (-9 ≤ bd) && decide (bd ≤ 9)) := by
    have : k ∈ lastKs (pre.length + 1) many := by
      unfold lastKs
      rcases hk with ⟨e, rfl⟩ | ⟨e, rfl | rfl⟩
      · rw [if_pos (by omega)]; simp
      · rw [if_neg (by omega)]; simp
      · rw [if_neg (by omega)]; simp
    simp [isEvent, evD, isWhole, this]
  have hl : pre.length ≤ many := by rcases hk with ⟨e, _⟩ | ⟨e, _⟩ <;> omega
  unfold wordD isWord
  dsimp only
  rw [List.dropLast_concat, h1, List.getLast?_concat]
  simp only [List.length_append, List.length_map, List.length_cons, List.length_nil, h2]
  simp [hl]
theorem Pl.word {pre : List Int} {k : Str} {bd : Int} (h : PyData.strOk k = true) (hl : pre.length ≤ 3) : Pl 10 4 (wordD pre k bd) := by
  have s1 : PyData.strOk "through" = true := by decide +kernel
  have ev : ∀ {k : Str} {c : Int}, PyData.strOk k = true → Pl 10 3 (evD k c) := fun hk => Pl.tup.mpr ⟨by simp, fun x hx => by
    simp at hx
    rcases hx with rfl | rfl
    · exact Pl.str hk
    · exact Pl.int⟩
  refine Pl.tup.mpr ⟨by simp; omega, fun x hx => ?_⟩
  rcases List.mem_append.mp hx with hx | hx
  · obtain ⟨c, _, rfl⟩ := List.mem_map.mp hx
    exact ev s1
  · rw [List.mem_singleton.mp hx]; exact ev h
/-- a hall and a ray of it -/
structure HR (hh e : Int) (ws : List D) (t b r l : Int) : Prop where
  hall : isHall (.tuple [.int hh, .tuple ws, .int e]) = true
  ray : isRay hh (.tuple [.tuple [.int t, .int b], .tuple [.int r, .int l]]) = true
  R : RayOk hh t b r l
section
variable {hh t b r l e : Int} {ws : List D}
theorem hall_facts (h : isHall (.tuple [.int hh, .tuple ws, .int e]) = true) : 1 ≤ hh ∧ hh ≤ 60 ∧ 1 ≤ e ∧ e ≤ hh ∧ ws.length ≤ 3 ∧ (∀ w ∈ ws, isWall hh e w = true) := by
  obtain ⟨_, _, _, e0, b1, b2, b3, b4, b5, b6, _⟩ := hall_of h
  simp at e0
  obtain ⟨rfl, rfl, rfl⟩ := e0
  exact ⟨b1, b2, b3, b4, b5, b6⟩
theorem HR.run (H : HR hh e ws t b r l) : r_run [.tuple [.int hh, .tuple ws, .int e], .tuple [.tuple [.int t, .int b], .tuple [.int r, .int l]]] = pure (.tuple [.tuple (runT hh e t b r l [] ws).1, .tuple [.int (runT hh e t b r l [] ws).2.1, (runT hh e t b r l [] ws).2.2]]) := by
  obtain ⟨h1, h2, h3, h4, h5, h6⟩ := hall_facts H.hall
  exact m_prun H.R h4 (by omega) h6 h5
theorem HR.lrun (H : HR hh e ws t b r l) : r__law_run [.tuple [.int hh, .tuple ws, .int e], .tuple [.tuple [.int t, .int b], .tuple [.int r, .int l]]] = pure (.tuple [.tuple (runT hh e t b r l [] ws).1, .int (runT hh e t b r l [] ws).2.1, (runT hh e t b r l [] ws).2.2]) := by
  obtain ⟨h1, h2, h3, h4, h5, h6⟩ := hall_facts H.hall
  rw [m_run H.R h4 (by omega) h6 h5, runD_T ws [] h6]
theorem HR.need (H : HR hh e ws t b r l) : r_need_hall [.tuple [.int hh, .tuple ws, .int e]] = pure .none ∧ r_need_ray [.tuple [.int hh, .tuple ws, .int e], .tuple [.tuple [.int t, .int b], .tuple [.int r, .int l]]] = pure .none := by
  obtain ⟨h1, h2, _⟩ := hall_facts H.hall
  refine ⟨?_, ?_⟩
  · rw [m_need_hall (n := 61) (okD_mono (by omega) _ (Pl.hall H.hall).ok), if_pos H.hall]
  · rw [m_need_ray (n := 62) (okD_mono (by omega) _ Pl.ray.ok) h1 h2, if_pos H.ray]
theorem HR.word_of (H : HR hh e ws t b r l) : r_word_of [.tuple [.int hh, .tuple ws, .int e], .tuple [.tuple [.int t, .int b], .tuple [.int r, .int l]]] = pure (.tuple (runT hh e t b r l [] ws).1) := by
  refine W_eq fun S => ?_
  unfold r_word_of
  rw [W_fnT]
  unfold b_word_of
  show WS _ [some (.tuple [.int hh, .tuple ws, .int e]), some (.tuple [.tuple [.int t, .int b], .tuple [.int r, .int l]])] S _ _ _
  have kf := (runT_fix (hh := hh) (t := t) (b := b) (r := r) (l := l) ws [] (hall_facts H.hall).2.2.2.2.2 rfl).1
  have kf : fixD (.tuple (runT hh e t b r l [] ws).1) = true := kf
  trivial
  refine w_eq H.need.1 ?_
  trivial
  refine w_eq H.need.2 ?_
  trivial
  refine w_eq H.run ?_
  trivial
  exact ⟨rfl, by simp⟩
theorem HR.hit (H : HR hh e ws t b r l) : r_hit [.tuple [.int hh, .tuple ws, .int e], .tuple [.tuple [.int t, .int b], .tuple [.int r, .int l]]] = pure (.tuple [.int (runT hh e t b r l [] ws).2.1, (runT hh e t b r l [] ws).2.2]) := by
  refine W_eq fun S => ?_
  unfold r_hit
  rw [W_fnT]
  unfold b_hit
  show WS _ [some (.tuple [.int hh, .tuple ws, .int e]), some (.tuple [.tuple [.int t, .int b], .tuple [.int r, .int l]])] S _ _ _
  have kf := (runT_fix (hh := hh) (t := t) (b := b) (r := r) (l := l) ws [] (hall_facts H.hall).2.2.2.2.2 rfl).2
  have kf : fixD (.tuple [.int (runT hh e t b r l [] ws).2.1, (runT hh e t b r l [] ws).2.2]) = true := by simp [kf]
  trivial
  refine w_eq H.need.1 ?_
  trivial
  refine w_eq H.need.2 ?_
  trivial
  refine w_eq H.run ?_
  trivial
  exact ⟨rfl, by simp⟩
theorem HR.shape (H : HR hh e ws t b r l) : ∃ (pre : List Int) (k : Str) (bd p q1 q2 : Int), runT hh e t b r l [] ws = (pre.map (evD "through") ++ [evD k bd], p, .tuple [.int q1, .int q2]) ∧ (∀ c ∈ pre, -1 ≤ c ∧ c ≤ 2) ∧ -1 ≤ bd ∧ bd ≤ 2 ∧ EndOk pre.length ws.length k ∧ PyData.strOk k = true ∧ pre.length ≤ 3 := by
  obtain ⟨h1, h2, h3, h4, h5, h6⟩ := hall_facts H.hall
  obtain ⟨pre, k, bd, p, q1, q2, e1, e2, e3, e4, e5⟩ := run_shape H.R h4 (by omega) ws [] h6
  refine ⟨pre, k, bd, p, q1, q2, by simpa using e1, e2, e3, e4, e5, ?_, by rcases e5 with ⟨z, _⟩ | ⟨z, _⟩ <;> omega⟩
  have s2 : PyData.strOk "under" = true := by decide +kernel
  have s3 : PyData.strOk "over" = true := by decide +kernel
  have s4 : PyData.strOk "screen" = true := by decide +kernel
  rcases e5 with ⟨_, rfl⟩ | ⟨_, rfl | rfl⟩ <;> assumption
theorem HR.does (H : HR hh e ws t b r l) {v : D} (hv : okD 64 v = true) : r_does [.tuple [.int hh, .tuple ws, .int e], .tuple [.tuple [.int t, .int b], .tuple [.int r, .int l]], v] = if isWord ws.length v = true then pure (.bool (eqD (.tuple (runT hh e t b r l [] ws).1) v)) else raise "InvalidWord" := by
  have mf := m_fits_word (n := 62) (a := .int hh) (z := .int e) hv (hall_facts H.hall).2.2.2.2.1
  cases hw : isWord ws.length v with
  | true =>
    rw [if_pos rfl]
    refine W_eq fun S => ?_
    unfold r_does
    rw [W_fnT]
    unfold b_does
    show WS _ [some (.tuple [.int hh, .tuple ws, .int e]), some (.tuple [.tuple [.int t, .int b], .tuple [.int r, .int l]]), some v] S _ _ _
    have ok1 : okD 64 (.tuple (runT hh e t b r l [] ws).1) = true := by
      obtain ⟨pre, k, bd, p, q1, q2, e1, e2, e3, e4, e5, e6, e7⟩ := H.shape
      rw [e1]
      exact okD_mono (by omega) _ (Pl.word e6 e7).ok
    trivial
    refine w_eq H.need.1 ?_
    trivial
    refine w_eq H.need.2 ?_
    trivial
    refine w_eq mf ?_
    rw [hw]
    trivial
    refine w_eq H.run ?_
    trivial
    exact ⟨rfl, by simp⟩
  | false =>
    rw [if_neg (by decide)]
    refine W_eqE fun S => ?_
    unfold r_does
    rw [W_fnT]
    unfold b_does
    show WS _ [some (.tuple [.int hh, .tuple ws, .int e]), some (.tuple [.tuple [.int t, .int b], .tuple [.int r, .int l]]), some v] S _ _ _
    trivial
    refine w_eq H.need.1 ?_
    trivial
    refine w_eq H.need.2 ?_
    trivial
    refine w_eq mf ?_
    rw [hw]
    trivial
    exact ⟨rfl, by simp⟩
end
end Z
end
section
set_option maxHeartbeats 4000000
namespace Z
open PySem PySem.Spec L2
local macro_rules | `(tactic| trivial) => `(tactic| repeat (first
  | with_reducible refine WSt.h ?_
  | ((with_reducible apply w_rd_c); · assumption)
  | ((with_reducible apply w_rd_ok); · assumption)
  | ((with_reducible apply w_new); · first | rfl | assumption | (simp; done))
  | ((with_reducible apply len_ok); · rfl)
  | ((with_reducible apply len_eq); · rfl)
  | ((with_reducible apply w_is_int_ok); · assumption)
  | ((with_reducible apply w_is_bool_ok); · assumption)
  | ((with_reducible apply w_is_str_ok); · assumption)
  | ((with_reducible apply w_is_list_ok); · assumption)
  | ((with_reducible apply w_is_tuple_ok); · assumption)
  | ((with_reducible apply w_addT); · first | omega | (simp; omega) | (simp; done))
  | ((with_reducible apply w_addL); · first | omega | (simp; omega) | (simp; done))
  | ((with_reducible apply w_addC); · first | omega | (simp; omega) | (simp; done))
  | ((with_reducible apply w_mul); (· (first | assumption | (refine sm_om ?_; omega))); · (first | assumption | (refine sm_om ?_; omega)))
  | ((with_reducible apply w_div); (· omega); · (first | assumption | (refine sm_om ?_; omega)))
  | ((with_reducible apply w_mod); · first | omega | assumption)
  | ((with_reducible apply w_eqd); (· first | assumption | (simp; done) | (simp [okDs_cons']; done)); · first | assumption | (simp; done) | (simp [okDs_cons']; done))
  | ((with_reducible apply w_ned); (· first | assumption | (simp; done) | (simp [okDs_cons']; done)); · first | assumption | (simp; done) | (simp [okDs_cons']; done))
  | ((with_reducible apply w_ixt); · first | exact at_0 | exact at_1 | exact at_2 | exact at_3 | assumption)
  | ((with_reducible apply w_ixl); · first | exact at_0 | exact at_1 | exact at_2 | exact at_3 | assumption)
  | ((with_reducible apply w_ixf); · first | exact at_0 | exact at_1 | exact at_2 | exact at_3 | assumption)
  | ((with_reducible apply w_rng); · first | omega | (simp; omega) | (simp; done))
  | ((with_reducible apply w_endT); · first | rfl | assumption | (simp; done))
  | ((with_reducible apply w_endL); · first | rfl | assumption | (simp; done))
  | ((with_reducible apply if_d1); · first | assumption | omega)
  | ((with_reducible apply if_d0); · first | assumption | omega)
  | ((with_reducible apply if_n1); · first | assumption | omega)
  | ((with_reducible apply if_n0); · first | assumption | omega)))
theorem mul_bd {a b A B : Int} (h1 : -A ≤ a) (h2 : a ≤ A) (h3 : -B ≤ b) (h4 : b ≤ B) : -(A * B) ≤ a * b ∧ a * b ≤ A * B := by
  have k1 := Int.mul_nonneg (show 0 ≤ A - a by omega) (show 0 ≤ B - b by omega)
  have k2 := Int.mul_nonneg (show 0 ≤ A + a by omega) (show 0 ≤ B + b by omega)
  have k3 := Int.mul_nonneg (show 0 ≤ A - a by omega) (show 0 ≤ B + b by omega)
  have k4 := Int.mul_nonneg (show 0 ≤ A + a by omega) (show 0 ≤ B - b by omega)
  constructor <;> grind
theorem w_choice {S : Store} {n : Nat} {xs : List D} {P : D → Store → Prop} {E : Str → Store → Prop} (b : Bag S n) (hx : 0 < xs.length) (hf : fixDs xs = true) (H : ∀ d ∈ xs, ∀ S', Upd S n S' → Bag S' n → P d S') : W (r__law_choice [.cell n, .list xs]) S P E :=
  W_mono (m_choice b hx hf) (fun a S' ⟨h1, h2⟩ => H a h1 S' h2 (b.upd h2)) fun _ _ h => h.elim
theorem m_edge {S : Store} {n : Nat} {hh e : Int} {ws : List D} (hH : isHall (.tuple [.int hh, .tuple ws, .int e]) = true) (b : Bag S n) :
    W (r__law_edge_ray [.cell n, .tuple [.int hh, .tuple ws, .int e]]) S (fun d S' => ∃ t c r l : Int, d = .tuple [.tuple [.int t, .int c], .tuple [.int r, .int l]] ∧ HR hh e ws t c r l ∧ Upd S n S') NE := by
  obtain ⟨h1, h2, h3, h4, h5, h6⟩ := hall_facts hH
  unfold r__law_edge_ray
  rw [W_fnT]
  unfold b__law_edge_ray
  show WS _ [some (.cell n), some (.tuple [.int hh, .tuple ws, .int e]), none, none, none, none, none, none, none] S _ _ _
  trivial
  have fx : fixDs (ws ++ [D.tuple [.int e, .int 0, .int hh]]) = true := by
    have := (Pl.hall hH).fix
    simp at this
    simp [this]
  refine w_choice b (by simp) fx fun d hd S1 hu1 b1 => ?_
  have hd2 : ∃ p lo to : Int, d = .tuple [.int p, .int lo, .int to] ∧ 0 ≤ p ∧ p ≤ 60 ∧ 0 ≤ lo ∧ lo ≤ 60 ∧ 0 ≤ to ∧ to ≤ 60 := by
    rcases List.mem_append.mp hd with hd | hd
    · obtain ⟨p, lo, to, e1, e2⟩ := wall_int (h6 d hd)
      exact ⟨p, lo, to, e1, by omega, by omega, by omega, by omega, by omega, by omega⟩
    · exact ⟨e, 0, hh, List.mem_singleton.mp hd, by omega, by omega, by omega, by omega, by omega, by omega⟩
  obtain ⟨p, lo, to, rfl, q1, q2, q3, q4, q5, q6⟩ := hd2
  have s2 : small 2 = true := (Sm.of 6 (b := 60) (by omega)).small
  have sh : small hh = true := (Sm.of 6 (b := 60) (by omega)).small
  trivial
  refine w_choice b1 (by simp) (by simp) fun d hd S2 hu2 b2 => ?_
  have hd2 : ∃ g : Int, d = .int g ∧ -120 ≤ g ∧ g ≤ 120 := by
    simp at hd
    rcases hd with rfl | rfl | rfl | rfl | rfl | rfl <;> exact ⟨_, rfl, by omega, by omega⟩
  obtain ⟨g, rfl, g1, g2⟩ := hd2
  trivial
  refine w_take b2 (by omega) fun i S3 i0 i1 hu3 b3 => ?_
  trivial
  refine w_take b3 (by omega) fun j S4 j0 j1 hu4 b4 => ?_
  have m1 := mul_bd (a := g) (b := 1 + i) (A := 120) (B := 4) (by omega) (by omega) (by omega) (by omega)
  have m2 := mul_bd (a := j - (1 + i)) (b := p) (A := 4) (B := 60) (by omega) (by omega) (by omega) (by omega)
  have sg : small g = true := (Sm.of 7 (b := 120) (by omega)).small
  trivial
  refine w_eq (m_lowestD (by omega) (sm_om (by omega))) ?_
  rw [lowD]
  have p1 := low_pos (t := g * (1 + i) - (j - (1 + i)) * p) (b := 1 + i) (by omega)
  have p3 := low_le (t := g * (1 + i) - (j - (1 + i)) * p) (b := 1 + i) (by omega)
  have gc := low_gcd (t := g * (1 + i) - (j - (1 + i)) * p) (b := 1 + i) (by omega)
  have lm := low_mul (g * (1 + i) - (j - (1 + i)) * p) (1 + i)
  have sB : small (lowB (g * (1 + i) - (j - (1 + i)) * p) (1 + i)) = true := (Sm.of 6 (b := 60) (by omega)).small
  have hu := hu1.trans (hu2.trans (hu3.trans hu4))
  generalize hT : lowT (g * (1 + i) - (j - (1 + i)) * p) (1 + i) = T at *
  generalize hB : lowB (g * (1 + i) - (j - (1 + i)) * p) (1 + i) = B at *
  trivial
  by_cases c1 : 0 ≤ T
  · trivial
    by_cases c2 : T ≤ hh * B
    · trivial
      refine w_eq (m_lowestD (by omega) (sm_om (by omega))) ?_
      rw [lowD]
      trivial
      have p2 := low_pos (t := j - (1 + i)) (b := 1 + i) (by omega)
      have p4 := low_le (t := j - (1 + i)) (b := 1 + i) (by omega)
      have a3 := low_ge (k := -1) (t := j - (1 + i)) (b := 1 + i) (by omega) (by omega)
      have a4 := low_lt (k := 1) (t := j - (1 + i)) (b := 1 + i) (by omega) (by omega)
      have g0 : 0 < ((Int.gcd (g * (1 + i) - (j - (1 + i)) * p) (1 + i) : Nat) : Int) := by
        have : 0 < Int.gcd (g * (1 + i) - (j - (1 + i)) * p) (1 + i) := Int.gcd_pos_iff.mpr (.inr (by omega))
        omega
      have t0 : 0 ≤ g * (1 + i) - (j - (1 + i)) * p := by
        rw [← lm.1]
        exact Int.mul_nonneg c1 (by omega)
      have t1 : g * (1 + i) - (j - (1 + i)) * p ≤ hh * (1 + i) := by
        have := Int.mul_le_mul_of_nonneg_right c2 (Int.le_of_lt g0)
        rw [Int.mul_assoc, lm.1, lm.2] at this
        exact this
      have isr := isRay_low (hh := hh) (t := g * (1 + i) - (j - (1 + i)) * p) (b := 1 + i) (r := j - (1 + i)) (l := 1 + i) (by omega) (by omega) (by omega) (by omega) (by omega) h2 (by omega) (by omega) t0 t1 (by omega) (by omega)
      rw [lowD, lowD, hT, hB] at isr
      refine ⟨_, _, _, _, rfl, ⟨hH, isr, ⟨h1, h2, by omega, by omega, ?_, ?_, c1, c2, by omega, by omega⟩⟩, by rw [← hu.len, List.take_length]; exact hu⟩
      all_goals exact (Sm.of 20 (b := 1000) (by omega)).mono
    · trivial
      refine W_mono (m_ray b4 h1 h2) (fun d S' ⟨⟨h3, t, c, r, l, e1, h4, h5, h6, h7, h8⟩, hu5⟩ => ?_) fun _ _ h => h
      subst e1
      trivial
      have hu := hu.trans hu5
      exact ⟨_, _, _, _, rfl, ⟨hH, h3, h4⟩, by rw [← hu.len, List.take_length]; exact hu⟩
  · trivial
    refine W_mono (m_ray b4 h1 h2) (fun d S' ⟨⟨h3, t, c, r, l, e1, h4, h5, h6, h7, h8⟩, hu5⟩ => ?_) fun _ _ h => h
    subst e1
    trivial
    have hu := hu.trans hu5
    exact ⟨_, _, _, _, rfl, ⟨hH, h3, h4⟩, by rw [← hu.len, List.take_length]; exact hu⟩
end Z
end
section
set_option maxHeartbeats 4000000
namespace Z
open PySem PySem.Spec L2
local macro_rules | `(tactic| trivial) => `(tactic| repeat (first
  | with_reducible refine WSt.h ?_
  | ((with_reducible apply w_rd_c); · assumption)
  | ((with_reducible apply w_rd_ok); · assumption)
  | ((with_reducible apply w_new); · first | rfl | assumption | (simp; done))
  | ((with_reducible apply len_ok); · rfl)
  | ((with_reducible apply len_eq); · rfl)
  | ((with_reducible apply w_is_int_ok); · assumption)
  | ((with_reducible apply w_is_bool_ok); · assumption)
  | ((with_reducible apply w_is_str_ok); · assumption)
  | ((with_reducible apply w_is_list_ok); · assumption)
  | ((with_reducible apply w_is_tuple_ok); · assumption)
  | ((with_reducible apply w_addT); · first | omega | (simp; omega) | (simp; done))
  | ((with_reducible apply w_addL); · first | omega | (simp; omega) | (simp; done))
  | ((with_reducible apply w_addC); · first | omega | (simp; omega) | (simp; done))
  | ((with_reducible apply w_mul); (· (first | assumption | (refine sm_om ?_; omega))); · (first | assumption | (refine sm_om ?_; omega)))
  | ((with_reducible apply w_div); (· omega); · (first | assumption | (refine sm_om ?_; omega)))
  | ((with_reducible apply w_mod); · first | omega | assumption)
  | ((with_reducible apply w_eqd); (· first | assumption | (simp; done) | (simp [okDs_cons']; done)); · first | assumption | (simp; done) | (simp [okDs_cons']; done))
  | ((with_reducible apply w_ned); (· first | assumption | (simp; done) | (simp [okDs_cons']; done)); · first | assumption | (simp; done) | (simp [okDs_cons']; done))
  | ((with_reducible apply w_ixt); · first | exact at_0 | exact at_1 | exact at_2 | exact at_3 | assumption)
  | ((with_reducible apply w_ixl); · first | exact at_0 | exact at_1 | exact at_2 | exact at_3 | assumption)
  | ((with_reducible apply w_ixf); · first | exact at_0 | exact at_1 | exact at_2 | exact at_3 | assumption)
  | ((with_reducible apply w_rng); · first | omega | (simp; omega) | (simp; done))
  | ((with_reducible apply w_endT); · first | rfl | assumption | (simp; done))
  | ((with_reducible apply w_endL); · first | rfl | assumption | (simp; done))
  | ((with_reducible apply if_d1); · first | assumption | omega)
  | ((with_reducible apply if_d0); · first | assumption | omega)
  | ((with_reducible apply if_n1); · first | assumption | omega)
  | ((with_reducible apply if_n0); · first | assumption | omega)))
def lwB1 : BS := (sSeq (sSet 5 (eIf (tB1 (e2 (g2 gLt) (eVar 4) (eC (.int 5)))) (eCall 2 r__law_ray (aCons (eVar 2) (aCons (eVar 3) aNil))) (eCall 2 r__law_edge_ray (aCons (eVar 2) (aCons (eVar 3) aNil))))) (sSeq (sAsg (.tup [(.name 6), (.name 7), (.name 8)]) (eCall 2 r__law_run (aCons (eVar 3) (aCons (eVar 5) aNil)))) (sSeq (sIf (bOr (tB1 (e2 (g2 gNe) (eCall 2 r_word_of (aCons (eVar 3) (aCons (eVar 5) aNil))) (eVar 6))) (tB1 (e2 (g2 gNe) (eCall 2 r_hit (aCons (eVar 3) (aCons (eVar 5) aNil))) (eTup (aCons (eVar 7) (aCons (eVar 8) aNil)))))) (sSeq (sRet (eC (.bool false))) sNil) sNil) (sSeq (sIf (bNot (bTru (eCall 2 r__law_truly (aCons (eCall 3 r_does (aCons (eVar 3) (aCons (eVar 5) (aCons (eVar 6) aNil)))) (aCons (eC (.bool true)) aNil))))) (sSeq (sRet (eC (.bool false))) sNil) sNil) (sSeq (sSet 9 (e2 (g2 gAdd) (eSl (eVar 6) oNone (oSome (e1 (g1 gNeg) (eC (.int 1))))) (eTup (aCons (eTup (aCons (e2 (g2 gIx) (e2 (g2 gIx) (eVar 6) (e1 (g1 gNeg) (eC (.int 1)))) (eC (.int 0))) (aCons (e2 (g2 gAdd) (e2 (g2 gIx) (e2 (g2 gIx) (eVar 6) (e1 (g1 gNeg) (eC (.int 1)))) (eC (.int 1))) (eC (.int 1))) aNil))) aNil)))) (sSeq (sIf (bNot (bTru (eCall 2 r__law_truly (aCons (eCall 3 r_does (aCons (eVar 3) (aCons (eVar 5) (aCons (eVar 9) aNil)))) (aCons (eC (.bool false)) aNil))))) (sSeq (sRet (eC (.bool false))) sNil) sNil) sNil))))))
def lwB2 : BS := (sSeq (sIf (bNot (bTru (eHof 2 3 [11, 3] (eCallF t_word_of_hit (eVar 1) (aCons (eVar 2) (aCons (eVar 0) aNil))) (G__law_all_refused) (aCons (eVar 10) (aCons (eC (.str "ray")) aNil))))) (sSeq (sRet (eC (.bool false))) sNil) sNil) (sSeq (sIf (tB1 (e2 (g2 gNe) (eHof 0 2 [11, 3] (eCallF t_word_of_hit (eVar 0) (aCons (eCB (c1 gList) (aCons (eVar 1) aNil)) (aCons (eC .none) aNil))) (G__law_error) aNil) (eC (.str "hall")))) (sSeq (sRet (eC (.bool false))) sNil) sNil) sNil))
def lwB3 : BS := (sSeq (sSet 2 (eCall 2 r__law_bag (aCons (eVar 0) (aCons (eVar 1) aNil)))) (sSeq (sSet 3 (eCall 2 r__law_hall (aCons (eVar 2) (aCons (eC (.int 3)) aNil)))) (sSeq (sFor (iRg (eC (.int 12))) (.name 4) lwB1) (sSeq (sSet 10 (eLst (aCons (eC .none) (aCons (eSl (eVar 5) oNone (oSome (eC (.int 1)))) (aCons (eCB (c1 gList) (aCons (eVar 5) aNil)) (aCons (eTup (aCons (eTup (aCons (e2 (g2 gAdd) (e2 (g2 gIx) (eVar 3) (eC (.int 0))) (eC (.int 1))) (aCons (eC (.int 1)) aNil))) (aCons (eTup (aCons (eC (.int 0)) (aCons (eC (.int 1)) aNil))) aNil))) (aCons (eTup (aCons (eTup (aCons (eC (.int 0)) (aCons (eC (.int 1)) aNil))) (aCons (eTup (aCons (eC (.int 3)) (aCons (eC (.int 2)) aNil))) aNil))) (aCons (eTup (aCons (eTup (aCons (eC (.int 0)) (aCons (eC (.int 2)) aNil))) (aCons (eTup (aCons (eC (.int 0)) (aCons (eC (.int 1)) aNil))) aNil))) aNil)))))))) (sSeq (sFor (iSeq (eLst (aCons (eC (.fn "word_of")) (aCons (eC (.fn "hit")) aNil)))) (.name 11) lwB2) (sSeq (sIf (bNot (bTru (eHof 2 2 [3] (eCall 3 r_does (aCons (eVar 1) (aCons (eVar 0) (aCons (eC .none) aNil)))) (G__law_all_refused) (aCons (eVar 10) (aCons (eC (.str "ray")) aNil))))) (sSeq (sRet (eC (.bool false))) sNil) sNil) (sSeq (sSet 10 (eLst (aCons (eC .none) (aCons (eTup aNil) (aCons (e2 (g2 gAdd) (eVar 6) (eVar 6)) (aCons (eCB (c1 gList) (aCons (eVar 6) aNil)) (aCons (eTup (aCons (eTup (aCons (eC (.str "screen")) (aCons (eC (.int 10)) aNil))) aNil)) aNil))))))) (sSeq (sIf (bNot (bTru (eHof 2 3 [3, 5] (eCall 3 r_does (aCons (eVar 1) (aCons (eVar 2) (aCons (eVar 0) aNil)))) (G__law_all_refused) (aCons (eVar 10) (aCons (eC (.str "word")) aNil))))) (sSeq (sRet (eC (.bool false))) sNil) sNil) sNil))))))))
mutual
theorem eqD_self : ∀ {n : Nat} {d : D}, okD n d = true → eqD d d = true
  | _, .none, _ => rfl
  | _, .bool b, _ => by simp [eqD]
  | _, .int i, _ => by simp [eqD]
  | _, .str s, _ => by simp [eqD]
  | n + 1, .list xs, h => by rw [eqD]; exact eqDs_self (by simpa [okD] using h)
  | n + 1, .tuple xs, h => by rw [eqD]; exact eqDs_self (by simpa [okD] using h)
  | 0, .list xs, h => by simp [okD] at h
  | 0, .tuple xs, h => by simp [okD] at h
  | 0, .cell _, h => by simp [okD] at h
  | n + 1, .cell _, h => by simp [okD] at h
  | 0, .fn _, h => by simp [okD] at h
  | n + 1, .fn _, h => by simp [okD] at h
  | 0, .frz _, h => by simp [okD] at h
  | n + 1, .frz _, h => by simp [okD] at h
  | 0, .adr _, h => by simp [okD] at h
  | n + 1, .adr _, h => by simp [okD] at h
theorem eqDs_self : ∀ {n : Nat} {ds : List D}, okDs n ds = true → eqDs ds ds = true
  | _, [], _ => rfl
  | n, d :: ds, h => by
    rw [okDs, Bool.and_eq_true] at h
    rw [eqDs, eqD_self h.1, eqDs_self h.2]; rfl
end
theorem if_W2 {q : Bool} {m m' : M D} {S : Store} {P Q : D → Store → Prop} {E : Str → Store → Prop} (h1 : W m S Q E) (h2 : W m' S Q E) (h : ∀ d S', Q d S' → P d S') : if q = true then W m S P E else W m' S P E := by
  cases q
  · exact W_mono h2 h
  · exact W_mono h1 h
theorem eqDs_app {xs ys zs : List D} : eqDs (xs ++ ys) (xs ++ zs) = (eqDs xs xs && eqDs ys zs) := by
  induction xs with
  | nil => simp [eqDs]
  | cons x xs ih => simp [eqDs, ih, Bool.and_assoc]
theorem word_ne {pre : List Int} {k : Str} {a b : Int} (h : a ≠ b) : eqD (wordD pre k a) (wordD pre k b) = false := by
  unfold wordD
  rw [eqD, eqDs_app]
  simp [eqDs, evD, eqD, h]
theorem at_last' {xs : List D} {x : D} : atI (xs ++ [x]) (-1) = some x := by
  rw [at_last (by simp)]
  simp
theorem w_trulyT {a : Bool} {S : Store} {P : D → Store → Prop} {E : Str → Store → Prop} (h : P (.bool true) S) : W (r__law_truly [.bool a, .bool a]) S P E := w_truly (by rw [beq_self_eq_true]; exact h)
theorem ray_or {c : Nat} {hh e : Int} {ws : List D} {S : Store} (hH : isHall (.tuple [.int hh, .tuple ws, .int e]) = true) (b : Bag S c) : W (r__law_ray [.cell c, .tuple [.int hh, .tuple ws, .int e]]) S (fun d S' => ∃ t b r l : Int, d = .tuple [.tuple [.int t, .int b], .tuple [.int r, .int l]] ∧ HR hh e ws t b r l ∧ Upd S c S') NE := by
  obtain ⟨h1, h2, h3, h4, h5, h6⟩ := hall_facts hH
  refine W_mono (m_ray b h1 h2) (fun d S' ⟨⟨h3, t, c, r, l, e1, h4, h5, h6, h7, h8⟩, hu5⟩ => ⟨t, c, r, l, e1, ⟨hH, by rw [← e1]; exact h3, h4⟩, hu5⟩) fun _ _ h => h
theorem law_1 {c : Nat} {i hh e : Int} {ws : List D} {x0 x1 x5 x6 x7 x8 x9 x10 x11 x12 x13 x14 x15 : Option D} {S : Store} (hH : isHall (.tuple [.int hh, .tuple ws, .int e]) = true) (b : Bag S c) :
    WS lwB1 [x0, x1, some (.cell c), some (.tuple [.int hh, .tuple ws, .int e]), some (.int i), x5, x6, x7, x8, x9, x10, x11, x12, x13, x14, x15] S
      (fun v S' => ∃ (t b r l : Int) (y7 y8 y9 : Option D), v = [x0, x1, some (.cell c), some (.tuple [.int hh, .tuple ws, .int e]), some (.int i), some (.tuple [.tuple [.int t, .int b], .tuple [.int r, .int l]]), some (.tuple (runT hh e t b r l [] ws).1), y7, y8, y9, x10, x11, x12, x13, x14, x15] ∧ HR hh e ws t b r l ∧ Bag S' c) (fun _ _ => False) NE := by
  unfold lwB1
  trivial
  refine if_W2 (ray_or hH b) (m_edge hH b) ?_
  rintro d S1 ⟨t, cc, r, l, rfl, H, hu⟩
  have b1 := b.upd hu
  obtain ⟨pre, k, bd, p, q1, q2, e1, e2, e3, e4, e5, e6, e7⟩ := H.shape
  have lr := H.lrun
  have wo := H.word_of
  have hi := H.hit
  have dd1 := H.does (v := wordD pre k bd) (okD_mono (by omega) _ (Pl.word e6 e7).ok)
  have dd2 := H.does (v := wordD pre k (bd + 1)) (okD_mono (by omega) _ (Pl.word e6 e7).ok)
  have iw1 := word_is (pre := pre) (k := k) (bd := bd) (fun c hc => by have := e2 c hc; omega) e5
  have iw2 := word_is (pre := pre) (k := k) (bd := bd + 1) (fun c hc => by have := e2 c hc; omega) e5
  have ow : okD 64 (.tuple (pre.map (evD "through") ++ [evD k bd])) = true := okD_mono (by omega) _ (Pl.word (bd := bd) e6 e7).ok
  have oh : okD 64 (.tuple [.int p, .tuple [.int q1, .int q2]]) = true := rfl
  have s1 : eqD (.tuple (pre.map (evD "through") ++ [evD k bd])) (.tuple (pre.map (evD "through") ++ [evD k bd])) = true := eqD_self ow
  have s2 : eqD (.tuple [.int p, .tuple [.int q1, .int q2]]) (.tuple [.int p, .tuple [.int q1, .int q2]]) = true := eqD_self oh
  rw [iw1, e1] at dd1
  rw [iw2, e1] at dd2
  have dd1 : r_does [.tuple [.int hh, .tuple ws, .int e], .tuple [.tuple [.int t, .int cc], .tuple [.int r, .int l]], .tuple (pre.map (evD "through") ++ [evD k bd])] = pure (.bool true) := by
    refine dd1.trans ?_
    rw [if_pos (by simp; omega)]
    exact congrArg (fun b => (pure (D.bool b) : M D)) s1
  have dd2 : r_does [.tuple [.int hh, .tuple ws, .int e], .tuple [.tuple [.int t, .int cc], .tuple [.int r, .int l]], .tuple (pre.map (evD "through") ++ [evD k (bd + 1)])] = pure (.bool false) := by
    refine dd2.trans ?_
    rw [if_pos (by simp; omega)]
    exact congrArg (fun b => (pure (D.bool b) : M D)) (word_ne (pre := pre) (k := k) (by omega))
  rw [e1] at lr wo hi
  dsimp only at lr wo hi
  trivial
  refine w_eq lr ?_
  trivial
  refine w_eq wo ?_
  trivial
  rw [s1]
  trivial
  refine w_eq hi ?_
  trivial
  rw [s2]
  trivial
  refine w_eq dd1 ?_
  trivial
  refine w_trulyT ?_
  trivial
  rw [cut_last, List.dropLast_concat]
  refine w_ixt at_last' ?_
  rw [evD]
  trivial
  refine w_ixt at_last' ?_
  trivial
  have g0 : (pre.map (evD "through")).length + [D.tuple [D.str k, D.int (bd + 1)]].length ≤ 1000000 := by simp; omega
  trivial
  refine w_eq dd2 ?_
  trivial
  refine w_trulyT ?_
  trivial
  have e9 : D.tuple (pre.map (evD "through") ++ [D.tuple [D.str k, D.int bd]]) = .tuple (runT hh e t cc r l [] ws).1 := by rw [e1]; rfl
  rw [e9]
  exact ⟨t, cc, r, l, _, _, _, rfl, H, b1⟩
theorem errN_hall : ("InvalidHall" : Str) ∈ errN ∧ wdE "InvalidHall" = "hall" := by decide +kernel
theorem errN_ray : ("InvalidRay" : Str) ∈ errN ∧ wdE "InvalidRay" = "ray" := by decide +kernel
theorem errN_word : ("InvalidWord" : Str) ∈ errN ∧ wdE "InvalidWord" = "word" := by decide +kernel
theorem ok_hall : PyData.strOk "hall" = true := by decide +kernel
theorem ok_ray : PyData.strOk "ray" = true := by decide +kernel
theorem ok_word : PyData.strOk "word" = true := by decide +kernel

section
variable {hh e : Int} {ws : List D} {v : D}
theorem need_bad (hH : isHall (.tuple [.int hh, .tuple ws, .int e]) = true) (hv : okD 64 v = true) (h : isRay hh v = false) : r_need_ray [.tuple [.int hh, .tuple ws, .int e], v] = raise "InvalidRay" := by
  obtain ⟨h1, h2, _⟩ := hall_facts hH
  rw [m_need_ray (n := 62) hv h1 h2, if_neg (by rw [h]; decide)]
theorem need_ok (hH : isHall (.tuple [.int hh, .tuple ws, .int e]) = true) : r_need_hall [.tuple [.int hh, .tuple ws, .int e]] = pure .none := by
  rw [m_need_hall (n := 61) (okD_mono (by omega) _ (Pl.hall hH).ok), if_pos hH]
theorem word_bad (hH : isHall (.tuple [.int hh, .tuple ws, .int e]) = true) (hv : okD 64 v = true) (h : isRay hh v = false) : r_word_of [.tuple [.int hh, .tuple ws, .int e], v] = raise "InvalidRay" := by
  refine W_eqE fun S => ?_
  unfold r_word_of
  rw [W_fnT]
  unfold b_word_of
  show WS _ [some (.tuple [.int hh, .tuple ws, .int e]), some v] S _ _ _
  trivial
  refine w_eq (need_ok hH) ?_
  trivial
  exact w_err (need_bad hH hv h) ⟨rfl, rfl⟩
theorem hit_bad (hH : isHall (.tuple [.int hh, .tuple ws, .int e]) = true) (hv : okD 64 v = true) (h : isRay hh v = false) : r_hit [.tuple [.int hh, .tuple ws, .int e], v] = raise "InvalidRay" := by
  refine W_eqE fun S => ?_
  unfold r_hit
  rw [W_fnT]
  unfold b_hit
  show WS _ [some (.tuple [.int hh, .tuple ws, .int e]), some v] S _ _ _
  trivial
  refine w_eq (need_ok hH) ?_
  trivial
  exact w_err (need_bad hH hv h) ⟨rfl, rfl⟩
theorem does_bad {u : D} (hH : isHall (.tuple [.int hh, .tuple ws, .int e]) = true) (hv : okD 64 v = true) (h : isRay hh v = false) : r_does [.tuple [.int hh, .tuple ws, .int e], v, u] = raise "InvalidRay" := by
  refine W_eqE fun S => ?_
  unfold r_does
  rw [W_fnT]
  unfold b_does
  show WS _ [some (.tuple [.int hh, .tuple ws, .int e]), some v, some u] S _ _ _
  trivial
  refine w_eq (need_ok hH) ?_
  trivial
  exact w_err (need_bad hH hv h) ⟨rfl, rfl⟩
theorem word_nohall (h : okD 64 v = true) (hv : isHall v = false) : r_word_of [v, .none] = raise "InvalidHall" := by
  refine W_eqE fun S => ?_
  unfold r_word_of
  rw [W_fnT]
  unfold b_word_of
  show WS _ [some v, some .none] S _ _ _
  trivial
  exact w_err ((m_need_hall (n := 61) h).trans (if_neg (by rw [hv]; decide))) ⟨rfl, rfl⟩
theorem hit_nohall (h : okD 64 v = true) (hv : isHall v = false) : r_hit [v, .none] = raise "InvalidHall" := by
  refine W_eqE fun S => ?_
  unfold r_hit
  rw [W_fnT]
  unfold b_hit
  show WS _ [some v, some .none] S _ _ _
  trivial
  exact w_err ((m_need_hall (n := 61) h).trans (if_neg (by rw [hv]; decide))) ⟨rfl, rfl⟩
end
end Z
end
section
set_option maxHeartbeats 4000000
namespace Z
open PySem PySem.Spec L2
local macro_rules | `(tactic| trivial) => `(tactic| repeat (first
  | with_reducible refine WSt.h ?_
  | ((with_reducible apply w_rd_c); · assumption)
  | ((with_reducible apply w_rd_ok); · assumption)
  | ((with_reducible apply w_new); · first | rfl | assumption | (simp; done))
  | ((with_reducible apply len_ok); · rfl)
  | ((with_reducible apply len_eq); · rfl)
  | ((with_reducible apply w_is_int_ok); · assumption)
  | ((with_reducible apply w_is_bool_ok); · assumption)
  | ((with_reducible apply w_is_str_ok); · assumption)
  | ((with_reducible apply w_is_list_ok); · assumption)
  | ((with_reducible apply w_is_tuple_ok); · assumption)
  | ((with_reducible apply w_addT); · first | omega | (simp; omega) | (simp; done))
  | ((with_reducible apply w_addL); · first | omega | (simp; omega) | (simp; done))
  | ((with_reducible apply w_addC); · first | omega | (simp; omega) | (simp; done))
  | ((with_reducible apply w_mul); (· (first | assumption | (refine sm_om ?_; omega))); · (first | assumption | (refine sm_om ?_; omega)))
  | ((with_reducible apply w_div); (· omega); · (first | assumption | (refine sm_om ?_; omega)))
  | ((with_reducible apply w_mod); · first | omega | assumption)
  | ((with_reducible apply w_eqd); (· first | assumption | (simp; done) | (simp [okDs_cons']; done)); · first | assumption | (simp; done) | (simp [okDs_cons']; done))
  | ((with_reducible apply w_ned); (· first | assumption | (simp; done) | (simp [okDs_cons']; done)); · first | assumption | (simp; done) | (simp [okDs_cons']; done))
  | ((with_reducible apply w_ixt); · first | exact at_0 | exact at_1 | exact at_2 | exact at_3 | assumption)
  | ((with_reducible apply w_ixl); · first | exact at_0 | exact at_1 | exact at_2 | exact at_3 | assumption)
  | ((with_reducible apply w_ixf); · first | exact at_0 | exact at_1 | exact at_2 | exact at_3 | assumption)
  | ((with_reducible apply w_rng); · first | omega | (simp; omega) | (simp; done))
  | ((with_reducible apply w_endT); · first | rfl | assumption | (simp; done))
  | ((with_reducible apply w_endL); · first | rfl | assumption | (simp; done))
  | ((with_reducible apply if_d1); · first | assumption | omega)
  | ((with_reducible apply if_d0); · first | assumption | omega)
  | ((with_reducible apply if_n1); · first | assumption | omega)
  | ((with_reducible apply if_n0); · first | assumption | omega)))
def oddsR (hh t b r l : Int) : List D := [.none, .tuple [.tuple [.int t, .int b]], .list [.tuple [.int t, .int b], .tuple [.int r, .int l]], .tuple [.tuple [.int (hh + 1), .int 1], .tuple [.int 0, .int 1]], .tuple [.tuple [.int 0, .int 1], .tuple [.int 3, .int 2]], .tuple [.tuple [.int 0, .int 2], .tuple [.int 0, .int 1]]]
theorem oddsR_bad {hh t b r l : Int} : ∀ d ∈ oddsR hh t b r l, okD 64 d = true ∧ isRay hh d = false := by
  intro d hd
  simp only [oddsR, List.mem_cons, List.not_mem_nil, or_false] at hd
  rcases hd with rfl | rfl | rfl | rfl | rfl | rfl
  · exact ⟨rfl, rfl⟩
  · exact ⟨rfl, rfl⟩
  · exact ⟨rfl, rfl⟩
  · refine ⟨rfl, ?_⟩
    simp [isRay]
    omega
  · exact ⟨rfl, by simp [isRay]⟩
  · exact ⟨rfl, by simp [isRay, isFrac]⟩
theorem law_2 {y : Str} {hh e t b r l : Int} {ws : List D} {x0 x1 x2 x4 x5 x6 x7 x8 x9 x12 x13 x14 x15 : Option D} {S : Store} (hy : y = "word_of" ∨ y = "hit") (hH : isHall (.tuple [.int hh, .tuple ws, .int e]) = true) :
    WS lwB2 [x0, x1, x2, some (.tuple [.int hh, .tuple ws, .int e]), x4, x5, x6, x7, x8, x9, some (.list (oddsR hh t b r l)), some (.fn y), x12, x13, x14, x15] S
      (fun w S' => w = [x0, x1, x2, some (.tuple [.int hh, .tuple ws, .int e]), x4, x5, x6, x7, x8, x9, some (.list (oddsR hh t b r l)), some (.fn y), x12, x13, x14, x15] ∧ S' = S) (fun _ _ => False) NE := by
  unfold lwB2
  have ok1 : okD 64 (.str "hall") = true := by decide +kernel
  have e1 : eqD (.str "hall") (.str "hall") = true := by decide +kernel
  have oh : okD 64 (.list [.int hh, .tuple ws, .int e]) = true := by
    have := okD_mono (show 4 ≤ 64 by omega) _ (Pl.hall hH).ok
    rw [okD_tuple] at this
    rw [okD_list]
    exact this
  have nh : isHall (.list [.int hh, .tuple ws, .int e]) = false := rfl
  have key : ∃ p : Nat × (List D → M D), p.1 = 2 ∧ t_word_of_hit.lookup y = some p ∧ (∀ d, okD 64 d = true → isRay hh d = false → p.2 [.tuple [.int hh, .tuple ws, .int e], d] = raise "InvalidRay") ∧ p.2 [.list [.int hh, .tuple ws, .int e], .none] = raise "InvalidHall" := by
    rcases hy with rfl | rfl
    · exact ⟨(2, r_word_of), rfl, rfl, fun d h1 h2 => word_bad hH h1 h2, word_nohall oh nh⟩
    · exact ⟨(2, r_hit), rfl, rfl, fun d h1 h2 => hit_bad hH h1 h2, hit_nohall oh nh⟩
  obtain ⟨⟨n, p⟩, rfl, hl, k1, k2⟩ := key
  trivial
  refine w_refused ok_ray (by simp [oddsR]) (fun d hd S1 => ?_) ?_
  · show W (eCallF t_word_of_hit (eVar 1) (aCons (eVar 2) (aCons (eVar 0) aNil)) [some d, some (.fn y), some (.tuple [.int hh, .tuple ws, .int e])]) S1 _ _
    trivial
    refine w_look hl ?_
    trivial
    obtain ⟨o1, o2⟩ := oddsR_bad d hd
    exact w_err (k1 d o1 o2) ⟨errN_ray.1, errN_ray.2, rfl⟩
  · trivial
    refine w_lawerr ?_
    show W (eCallF t_word_of_hit (eVar 0) (aCons (eCB (c1 gList) (aCons (eVar 1) aNil)) (aCons (eC .none) aNil)) [some (.fn y), some (.tuple [.int hh, .tuple ws, .int e])]) S _ _
    trivial
    refine w_look hl ?_
    trivial
    refine w_err k2 ⟨errN_hall.1, ?_⟩
    rw [errN_hall.2]
    trivial
    rw [e1]
    trivial
    exact ⟨rfl, rfl⟩
end Z
end
section
set_option maxHeartbeats 4000000
namespace Z
open PySem PySem.Spec L2
local macro_rules | `(tactic| trivial) => `(tactic| repeat (first
  | with_reducible refine WSt.h ?_
  | ((with_reducible apply w_rd_c); · assumption)
  | ((with_reducible apply w_rd_ok); · assumption)
  | ((with_reducible apply w_new); · first | rfl | assumption | (simp; done))
  | ((with_reducible apply len_ok); · rfl)
  | ((with_reducible apply len_eq); · rfl)
  | ((with_reducible apply w_is_int_ok); · assumption)
  | ((with_reducible apply w_is_bool_ok); · assumption)
  | ((with_reducible apply w_is_str_ok); · assumption)
  | ((with_reducible apply w_is_list_ok); · assumption)
  | ((with_reducible apply w_is_tuple_ok); · assumption)
  | ((with_reducible apply w_addT); · first | omega | (simp; omega) | (simp; done))
  | ((with_reducible apply w_addL); · first | omega | (simp; omega) | (simp; done))
  | ((with_reducible apply w_addC); · first | omega | (simp; omega) | (simp; done))
  | ((with_reducible apply w_mul); (· (first | assumption | (refine sm_om ?_; omega))); · (first | assumption | (refine sm_om ?_; omega)))
  | ((with_reducible apply w_div); (· omega); · (first | assumption | (refine sm_om ?_; omega)))
  | ((with_reducible apply w_mod); · first | omega | assumption)
  | ((with_reducible apply w_eqd); (· first | assumption | (simp; done) | (simp [okDs_cons']; done)); · first | assumption | (simp; done) | (simp [okDs_cons']; done))
  | ((with_reducible apply w_ned); (· first | assumption | (simp; done) | (simp [okDs_cons']; done)); · first | assumption | (simp; done) | (simp [okDs_cons']; done))
  | ((with_reducible apply w_ixt); · first | exact at_0 | exact at_1 | exact at_2 | exact at_3 | assumption)
  | ((with_reducible apply w_ixl); · first | exact at_0 | exact at_1 | exact at_2 | exact at_3 | assumption)
  | ((with_reducible apply w_ixf); · first | exact at_0 | exact at_1 | exact at_2 | exact at_3 | assumption)
  | ((with_reducible apply w_rng); · first | omega | (simp; omega) | (simp; done))
  | ((with_reducible apply w_endT); · first | rfl | assumption | (simp; done))
  | ((with_reducible apply w_endL); · first | rfl | assumption | (simp; done))
  | ((with_reducible apply if_d1); · first | assumption | omega)
  | ((with_reducible apply if_d0); · first | assumption | omega)
  | ((with_reducible apply if_n1); · first | assumption | omega)
  | ((with_reducible apply if_n0); · first | assumption | omega)))
def oddsW (w : List D) : List D := [.none, .tuple [], .tuple (w ++ w), .list w, .tuple [.tuple [.str "screen", .int 10]]]
theorem double_bad {pre : List D} {k : Str} {bd : Int} {many : Nat} (hk : k ≠ "through") : isWord many (.tuple ((pre ++ [evD k bd]) ++ (pre ++ [evD k bd]))) = false := by
  have h1 : (((pre ++ [evD k bd]) ++ (pre ++ [evD k bd])).dropLast.all (isEvent ["through"])) = false := by
    have e : (pre ++ [evD k bd]) ++ (pre ++ [evD k bd]) = ((pre ++ [evD k bd]) ++ pre) ++ [evD k bd] := by simp
    rw [e, List.dropLast_concat, List.all_append, List.all_append]
    have : isEvent ["through"] (evD k bd) = false := by
      unfold isEvent evD
      simp [hk]
    simp [this]
  unfold isWord
  dsimp only
  rw [h1]
  simp
section
variable {hh t b r l e : Int} {ws : List D}
theorem HR.oddsW (H : HR hh e ws t b r l) : ∀ d ∈ Z.oddsW (runT hh e t b r l [] ws).1, okD 64 d = true ∧ isWord ws.length d = false := by
  intro d hd
  obtain ⟨pre, k, bd, p, q1, q2, e1, e2, e3, e4, e5, e6, e7⟩ := H.shape
  have pw := Pl.word (pre := pre) (bd := bd) e6 e7
  have kt : k ≠ "through" := by
    rcases e5 with ⟨_, rfl⟩ | ⟨_, rfl | rfl⟩ <;> decide +kernel
  rw [e1] at hd
  simp only [Z.oddsW, List.mem_cons, List.not_mem_nil, or_false] at hd
  rcases hd with rfl | rfl | rfl | rfl | rfl
  · exact ⟨rfl, rfl⟩
  · exact ⟨rfl, rfl⟩
  · refine ⟨?_, double_bad kt⟩
    have := okD_mono (show 4 ≤ 64 by omega) _ pw.ok
    unfold wordD at this
    rw [okD_tuple] at this ⊢
    exact okDs_of fun x hx => by
      rcases List.mem_append.mp hx with h | h <;> exact okDs_mem this x h
  · refine ⟨?_, rfl⟩
    have := okD_mono (show 4 ≤ 64 by omega) _ pw.ok
    unfold wordD at this
    rw [okD_tuple] at this
    rw [okD_list]
    exact this
  · refine ⟨by decide +kernel, ?_⟩
    simp [isWord, isEvent, isWhole]
theorem HR.does_bad (H : HR hh e ws t b r l) {d : D} (h1 : okD 64 d = true) (h2 : isWord ws.length d = false) : r_does [.tuple [.int hh, .tuple ws, .int e], .tuple [.tuple [.int t, .int b], .tuple [.int r, .int l]], d] = raise "InvalidWord" := (H.does h1).trans (if_neg (by rw [h2]; decide))
end
theorem law_3 {ns : List Int} {k : Nat} {x2 x3 x4 x5 x6 x7 x8 x9 x10 x11 x12 x13 x14 x15 : Option D} {S : Store} (hl : ns.length ≤ 63) (hk : k ≤ 100) :
    WS lwB3 [some (script ns), some (.int (k : Nat)), x2, x3, x4, x5, x6, x7, x8, x9, x10, x11, x12, x13, x14, x15] S
      (fun w S' => ∃ y2 y3 y4 y5 y6 y7 y8 y9 y10 y11 : Option D, w = [some (script ns), some (.int (k : Nat)), y2, y3, y4, y5, y6, y7, y8, y9, y10, y11, x12, x13, x14, x15]) (fun _ _ => False) NE := by
  unfold lwB3
  trivial
  refine w_bag hl hk fun S1 c b1 => ?_
  trivial
  refine w_hall b1 (by omega) (by omega) fun hh e ws S2 hH hv e3 eh hw hws b2 => ?_
  trivial
  refine WSF_inv (fun i v S' => ∃ x4 x5 x6 x7 x8 x9 : Option D, v = [some (script ns), some (.int (k : Nat)), some (.cell c), some (.tuple [.int hh, .tuple ws, .int e]), x4, x5, x6, x7, x8, x9, x10, x11, x12, x13, x14, x15] ∧ Bag S' c ∧
    (0 < i → ∃ t b r l : Int, x5 = some (.tuple [.tuple [.int t, .int b], .tuple [.int r, .int l]]) ∧ x6 = some (.tuple (runT hh e t b r l [] ws).1) ∧ HR hh e ws t b r l)) (fun _ => rfl) _ 0 _ _ (fun i d env S4 hd hinv => ?_) ⟨_, _, _, _, _, _, rfl, b2, fun z => by omega⟩ (fun v S4 hv => ?_)
  · obtain ⟨hi, rfl⟩ := range_at hd
    obtain ⟨y4, y5, y6, y7, y8, y9, rfl, bg, _⟩ := hinv
    refine ⟨_, rfl, WS_mono (law_1 hH bg) (fun v S5 hv => ?_) fun _ _ h => h⟩
    obtain ⟨t, b, r, l, z7, z8, z9, rfl, H, bg2⟩ := hv
    exact ⟨_, _, _, _, _, _, rfl, bg2, fun _ => ⟨t, b, r, l, rfl, rfl, H⟩⟩
  · obtain ⟨y4, y5, y6, y7, y8, y9, rfl, bg, hz⟩ := hv
    obtain ⟨t, b, r, l, rfl, rfl, H⟩ := hz (by simp)
    have hd := H.oddsW
    have hb := fun d => H.does_bad (d := d)
    have l1 : (runT hh e t b r l [] ws).1.length + (runT hh e t b r l [] ws).1.length ≤ 1000000 := by
      obtain ⟨pre, k, bd, p, q1, q2, e1, e2, e3, e4, e5, e6, e7⟩ := H.shape
      rw [e1]
      simp
      omega
    generalize (runT hh e t b r l [] ws).1 = w at *
    have fin : ∀ {v : Ev} {S5 : Store}, v = [some (script ns), some (.int (k : Nat)), some (.cell c), some (.tuple [.int hh, .tuple ws, .int e]), y4, some (.tuple [.tuple [.int t, .int b], .tuple [.int r, .int l]]), some (.tuple w), y7, y8, y9, some (.list (oddsR hh t b r l)), some (.fn "hit"), x12, x13, x14, x15] → WS (sSeq (sIf (bNot (bTru (eHof 2 2 [3] (eCall 3 r_does (aCons (eVar 1) (aCons (eVar 0) (aCons (eC .none) aNil)))) (G__law_all_refused) (aCons (eVar 10) (aCons (eC (.str "ray")) aNil))))) (sSeq (sRet (eC (.bool false))) sNil) sNil) (sSeq (sSet 10 (eLst (aCons (eC .none) (aCons (eTup aNil) (aCons (e2 (g2 gAdd) (eVar 6) (eVar 6)) (aCons (eCB (c1 gList) (aCons (eVar 6) aNil)) (aCons (eTup (aCons (eTup (aCons (eC (.str "screen")) (aCons (eC (.int 10)) aNil))) aNil)) aNil))))))) (sSeq (sIf (bNot (bTru (eHof 2 3 [3, 5] (eCall 3 r_does (aCons (eVar 1) (aCons (eVar 2) (aCons (eVar 0) aNil)))) (G__law_all_refused) (aCons (eVar 10) (aCons (eC (.str "word")) aNil))))) (sSeq (sRet (eC (.bool false))) sNil) sNil) sNil))) v S5
        (fun w S' => ∃ y2 y3 y4 y5 y6 y7 y8 y9 y10 y11 : Option D, w = [some (script ns), some (.int (k : Nat)), y2, y3, y4, y5, y6, y7, y8, y9, y10, y11, x12, x13, x14, x15]) (fun _ _ => False) NE := fun {v S5} hv => by
      subst hv
      trivial
      refine w_refused ok_ray (by simp [oddsR]) (fun d hd S1 => ?_) ?_
      · show W (eCall 3 r_does (aCons (eVar 1) (aCons (eVar 0) (aCons (eC .none) aNil))) [some d, some (.tuple [.int hh, .tuple ws, .int e])]) S1 _ _
        trivial
        obtain ⟨o1, o2⟩ := oddsR_bad d hd
        exact w_err (Z.does_bad hH o1 o2) ⟨errN_ray.1, errN_ray.2, rfl⟩
      · trivial
        refine w_refused (xs := Z.oddsW w) ok_word (by simp [Z.oddsW]) (fun d hd2 S1 => ?_) ?_
        · show W (eCall 3 r_does (aCons (eVar 1) (aCons (eVar 2) (aCons (eVar 0) aNil))) [some d, some (.tuple [.int hh, .tuple ws, .int e]), some (.tuple [.tuple [.int t, .int b], .tuple [.int r, .int l]])]) S1 _ _
          trivial
          obtain ⟨o1, o2⟩ := hd d hd2
          exact w_err (hb d o1 o2) ⟨errN_word.1, errN_word.2, rfl⟩
        · trivial
          exact ⟨_, _, _, _, _, _, _, _, _, _, rfl⟩
    trivial
    rw [cut_take (by omega)]
    refine WSF_cons rfl rfl (WS_mono (law_2 (.inl rfl) hH) (fun v S5 hv => ?_) fun _ _ h => h)
    obtain ⟨rfl, rfl⟩ := hv
    refine WSF_cons rfl rfl (WS_mono (law_2 (.inr rfl) hH) (fun v S5 hv => ?_) fun _ _ h => h)
    obtain ⟨rfl, rfl⟩ := hv
    refine WSF_nil rfl ?_
    exact fin rfl
end Z
end
section
set_option maxHeartbeats 4000000
namespace Z
open PySem PySem.Spec L2
local macro_rules | `(tactic| trivial) => `(tactic| repeat (first
  | with_reducible refine WSt.h ?_
  | ((with_reducible apply w_rd_c); · assumption)
  | ((with_reducible apply w_rd_ok); · assumption)
  | ((with_reducible apply w_new); · first | rfl | assumption | (simp; done))
  | ((with_reducible apply len_ok); · rfl)
  | ((with_reducible apply len_eq); · rfl)
  | ((with_reducible apply w_is_int_ok); · assumption)
  | ((with_reducible apply w_is_bool_ok); · assumption)
  | ((with_reducible apply w_is_str_ok); · assumption)
  | ((with_reducible apply w_is_list_ok); · assumption)
  | ((with_reducible apply w_is_tuple_ok); · assumption)
  | ((with_reducible apply w_addT); · first | omega | (simp; omega) | (simp; done))
  | ((with_reducible apply w_addL); · first | omega | (simp; omega) | (simp; done))
  | ((with_reducible apply w_addC); · first | omega | (simp; omega) | (simp; done))
  | ((with_reducible apply w_mul); (· (first | assumption | (refine sm_om ?_; omega))); · (first | assumption | (refine sm_om ?_; omega)))
  | ((with_reducible apply w_div); (· omega); · (first | assumption | (refine sm_om ?_; omega)))
  | ((with_reducible apply w_mod); · first | omega | assumption)
  | ((with_reducible apply w_eqd); (· first | assumption | (simp; done) | (simp [okDs_cons']; done)); · first | assumption | (simp; done) | (simp [okDs_cons']; done))
  | ((with_reducible apply w_ned); (· first | assumption | (simp; done) | (simp [okDs_cons']; done)); · first | assumption | (simp; done) | (simp [okDs_cons']; done))
  | ((with_reducible apply w_ixt); · first | exact at_0 | exact at_1 | exact at_2 | exact at_3 | assumption)
  | ((with_reducible apply w_ixl); · first | exact at_0 | exact at_1 | exact at_2 | exact at_3 | assumption)
  | ((with_reducible apply w_ixf); · first | exact at_0 | exact at_1 | exact at_2 | exact at_3 | assumption)
  | ((with_reducible apply w_rng); · first | omega | (simp; omega) | (simp; done))
  | ((with_reducible apply w_endT); · first | rfl | assumption | (simp; done))
  | ((with_reducible apply w_endL); · first | rfl | assumption | (simp; done))
  | ((with_reducible apply if_d1); · first | assumption | omega)
  | ((with_reducible apply if_d0); · first | assumption | omega)
  | ((with_reducible apply if_n1); · first | assumption | omega)
  | ((with_reducible apply if_n0); · first | assumption | omega)))
def lwR (wo hi do_ : List D → M D) : BS := (sSeq (sAsg (.tup [(.name 12), (.name 13)]) (eTup (aCons (eTup (aCons (eC (.int 10)) (aCons (eTup (aCons (eTup (aCons (eC (.int 4)) (aCons (eC (.int 3)) (aCons (eC (.int 6)) aNil)))) aNil)) (aCons (eC (.int 10)) aNil)))) (aCons (eTup (aCons (eTup (aCons (eC (.str "through")) (aCons (eC (.int 0)) aNil))) (aCons (eTup (aCons (eC (.str "screen")) (aCons (eC (.int 1)) aNil))) aNil))) aNil)))) (sSeq (sSet 14 (eLst (aCons (eCall 2 wo (aCons (eVar 12) (aCons (eTup (aCons (eTup (aCons (eC (.int 5)) (aCons (eC (.int 1)) aNil))) (aCons (eTup (aCons (eC (.int 0)) (aCons (eC (.int 1)) aNil))) aNil))) aNil))) (aCons (eCall 2 wo (aCons (eVar 12) (aCons (eTup (aCons (eTup (aCons (eC (.int 0)) (aCons (eC (.int 1)) aNil))) (aCons (eTup (aCons (e1 (g1 gNeg) (eC (.int 1))) (aCons (eC (.int 1)) aNil))) aNil))) aNil))) (aCons (eCall 2 wo (aCons (eVar 12) (aCons (eTup (aCons (eTup (aCons (eC (.int 10)) (aCons (eC (.int 1)) aNil))) (aCons (eTup (aCons (eC (.int 1)) (aCons (eC (.int 1)) aNil))) aNil))) aNil))) aNil))))) (sSeq (sSet 15 (eLst (aCons (eTup (aCons (eTup (aCons (eC (.str "through")) (aCons (eC (.int 0)) aNil))) (aCons (eTup (aCons (eC (.str "screen")) (aCons (eC (.int 0)) aNil))) aNil))) (aCons (eTup (aCons (eTup (aCons (eC (.str "through")) (aCons (e1 (g1 gNeg) (eC (.int 1))) aNil))) (aCons (eTup (aCons (eC (.str "screen")) (aCons (e1 (g1 gNeg) (eC (.int 1))) aNil))) aNil))) (aCons (eTup (aCons (eTup (aCons (eC (.str "through")) (aCons (eC (.int 1)) aNil))) (aCons (eTup (aCons (eC (.str "screen")) (aCons (eC (.int 2)) aNil))) aNil))) aNil))))) (sSeq (sIf (bOr (tB1 (e2 (g2 gNe) (eVar 14) (eVar 15))) (bOr (tB1 (e2 (g2 gNe) (eCall 2 hi (aCons (eVar 12) (aCons (eTup (aCons (eTup (aCons (eC (.int 0)) (aCons (eC (.int 1)) aNil))) (aCons (eTup (aCons (eC (.int 1)) (aCons (eC (.int 2)) aNil))) aNil))) aNil))) (eTup (aCons (eC (.int 4)) (aCons (eTup (aCons (eC (.int 2)) (aCons (eC (.int 1)) aNil))) aNil))))) (tB1 (e2 (g2 (gIs true)) (eCall 3 do_ (aCons (eVar 12) (aCons (eTup (aCons (eTup (aCons (eC (.int 2)) (aCons (eC (.int 1)) aNil))) (aCons (eTup (aCons (eC (.int 1)) (aCons (eC (.int 1)) aNil))) aNil))) (aCons (eVar 13) aNil)))) (eC (.bool true)))))) (sSeq (sRet (eC (.bool false))) sNil) sNil) (sSeq (sRet (eAnd (e2 (g2 gEq) (eCall 2 hi (aCons (eVar 12) (aCons (eTup (aCons (eTup (aCons (eC (.int 2)) (aCons (eC (.int 1)) aNil))) (aCons (eTup (aCons (eC (.int 1)) (aCons (eC (.int 1)) aNil))) aNil))) aNil))) (eTup (aCons (eC (.int 10)) (aCons (eTup (aCons (eC (.int 8)) (aCons (eC (.int 1)) aNil))) aNil)))) (e2 (g2 gEq) (eCall 2 hi (aCons (eVar 12) (aCons (eTup (aCons (eTup (aCons (eC (.int 10)) (aCons (eC (.int 1)) aNil))) (aCons (eTup (aCons (eC (.int 1)) (aCons (eC (.int 1)) aNil))) aNil))) aNil))) (eTup (aCons (eC (.int 10)) (aCons (eTup (aCons (eC (.int 0)) (aCons (eC (.int 1)) aNil))) aNil)))))) sNil)))))
theorem lw_b (i : Nat) : b_law i = (sSeq (sFor (iRg (eC (.int 8))) (.name 1) lwB3) (lwR r_word_of r_hit r_does)) := rfl
def exA : D := .tuple [.int 10, .tuple [.tuple [.int 4, .int 3, .int 6]], .int 10]
def exR (t b r l : Int) : D := .tuple [.tuple [.int t, .int b], .tuple [.int r, .int l]]
structure Exs (wo hi do_ : List D → M D) : Prop where
  a : wo [exA, exR 5 1 0 1] = pure (.tuple [evD "through" 0, evD "screen" 0])
  b : wo [exA, exR 0 1 (-1) 1] = pure (.tuple [evD "through" (-1), evD "screen" (-1)])
  c : wo [exA, exR 10 1 1 1] = pure (.tuple [evD "through" 1, evD "screen" 2])
  d : hi [exA, exR 0 1 1 2] = pure (.tuple [.int 4, .tuple [.int 2, .int 1]])
  e : do_ [exA, exR 2 1 1 1, .tuple [evD "through" 0, evD "screen" 1]] = pure (.bool true)
  f : hi [exA, exR 2 1 1 1] = pure (.tuple [.int 10, .tuple [.int 8, .int 1]])
  g : hi [exA, exR 10 1 1 1] = pure (.tuple [.int 10, .tuple [.int 0, .int 1]])
theorem exHR {t b r l : Int} (h1 : isRay 10 (exR t b r l) = true) (h2 : 1 ≤ b ∧ b ≤ 60 ∧ 1 ≤ l ∧ l ≤ 60 ∧ 0 ≤ t ∧ t ≤ 10 * b ∧ -l ≤ r ∧ r ≤ l) : HR 10 10 [.tuple [.int 4, .int 3, .int 6]] t b r l := by
  obtain ⟨q1, q2, q3, q4, q5, q6, q7, q8⟩ := h2
  exact ⟨rfl, h1, ⟨by omega, by omega, q1, q3, (Sm.of 20 (b := 1000) (by omega)).mono, (Sm.of 20 (b := 1000) (by omega)).mono, q5, q6, q7, q8⟩⟩
theorem exs : Exs r_word_of r_hit r_does := by
  have ha := exHR (t := 5) (b := 1) (r := 0) (l := 1) (by decide +kernel) (by omega)
  have hb := exHR (t := 0) (b := 1) (r := -1) (l := 1) (by decide +kernel) (by omega)
  have hc := exHR (t := 10) (b := 1) (r := 1) (l := 1) (by decide +kernel) (by omega)
  have hd := exHR (t := 0) (b := 1) (r := 1) (l := 2) (by decide +kernel) (by omega)
  have he := exHR (t := 2) (b := 1) (r := 1) (l := 1) (by decide +kernel) (by omega)
  have ea : runT 10 10 5 1 0 1 [] [.tuple [.int 4, .int 3, .int 6]] = ([evD "through" 0, evD "screen" 0], 10, .tuple [.int 5, .int 1]) := by with_unfolding_all rfl
  have eb : runT 10 10 0 1 (-1) 1 [] [.tuple [.int 4, .int 3, .int 6]] = ([evD "through" (-1), evD "screen" (-1)], 10, .tuple [.int 10, .int 1]) := by with_unfolding_all rfl
  have ec : runT 10 10 10 1 1 1 [] [.tuple [.int 4, .int 3, .int 6]] = ([evD "through" 1, evD "screen" 2], 10, .tuple [.int 0, .int 1]) := by with_unfolding_all rfl
  have ed : runT 10 10 0 1 1 2 [] [.tuple [.int 4, .int 3, .int 6]] = ([evD "under" 0], 4, .tuple [.int 2, .int 1]) := by with_unfolding_all rfl
  have ee : runT 10 10 2 1 1 1 [] [.tuple [.int 4, .int 3, .int 6]] = ([evD "through" 0, evD "screen" 1], 10, .tuple [.int 8, .int 1]) := by with_unfolding_all rfl
  refine ⟨?_, ?_, ?_, ?_, ?_, ?_, ?_⟩
  · have := ha.word_of; rw [ea] at this; exact this
  · have := hb.word_of; rw [eb] at this; exact this
  · have := hc.word_of; rw [ec] at this; exact this
  · have := hd.hit; rw [ed] at this; exact this
  · have ok : okD 64 (.tuple [evD "through" 0, evD "screen" 1]) = true := by decide +kernel
    have := (he.does ok).trans (if_pos (by decide +kernel))
    rw [ee] at this
    refine this.trans ?_
    rw [eqD_self ok]
  · have := he.hit; rw [ee] at this; exact this
  · have := hc.hit; rw [ec] at this; exact this
theorem law_4 {wo hi do_ : List D → M D} (A : Exs wo hi do_) {x0 x1 x2 x3 x4 x5 x6 x7 x8 x9 x10 x11 x12 x13 x14 x15 : Option D} {S : Store} : WS (lwR wo hi do_) [x0, x1, x2, x3, x4, x5, x6, x7, x8, x9, x10, x11, x12, x13, x14, x15] S (fun _ _ => False) (fun d _ => d = .bool true) NE := by
  have ok1 : ∀ k : Str, (k = "through" ∨ k = "screen") → PyData.strOk k = true := by
    rintro k (rfl | rfl) <;> decide +kernel
  obtain ⟨a, b, c, d, e, f, g⟩ := A
  simp only [exA, exR, evD] at a b c d e f g
  have s1 := ok1 "through" (.inl rfl)
  have s2 := ok1 "screen" (.inr rfl)
  have okE : ∀ (k : Str) (i : Int), PyData.strOk k = true → okD 62 (.tuple [.str k, .int i]) = true := fun k i h => by simp [okD, okDs, h]
  have okL : okD 64 (.list [.tuple [.tuple [.str "through", .int 0], .tuple [.str "screen", .int 0]], .tuple [.tuple [.str "through", .int (-1)], .tuple [.str "screen", .int (-1)]], .tuple [.tuple [.str "through", .int 1], .tuple [.str "screen", .int 2]]]) = true := by decide +kernel
  have eqL := eqD_self okL
  have o4 : okD 64 (.tuple [.int 4, .tuple [.int 2, .int 1]]) = true := rfl
  have o8 : okD 64 (.tuple [.int 10, .tuple [.int 8, .int 1]]) = true := rfl
  have o0 : okD 64 (.tuple [.int 10, .tuple [.int 0, .int 1]]) = true := rfl
  have e4 := eqD_self o4
  have e8 := eqD_self o8
  have e0 := eqD_self o0
  unfold lwR
  trivial
  refine w_eq a ?_
  trivial
  refine w_eq b ?_
  trivial
  refine w_eq c ?_
  trivial
  rw [eqL]
  trivial
  refine w_eq d ?_
  trivial
  rw [e4]
  trivial
  refine w_eq e ?_
  trivial
  refine w_eq f ?_
  trivial
  rw [e8]
  trivial
  refine w_eq g ?_
  trivial
  exact congrArg D.bool e0
theorem law_5 {wo hi do_ : List D → M D} (A : Exs wo hi do_) {x0 : Option D} {v : Ev} {S : Store} {n : Nat} (hv : ∃ y1 y2 y3 y4 y5 y6 y7 y8 y9 y10 y11 : Option D, v = [x0, y1, y2, y3, y4, y5, y6, y7, y8, y9, y10, y11, none, none, none, none]) {Pn : Ev → Store → Prop} : WS (lwR wo hi do_) v S Pn (fun d S' => W (endT n d) S' (fun d _ => d = .bool true) NE) NE := by
  obtain ⟨y1, y2, y3, y4, y5, y6, y7, y8, y9, y10, y11, rfl⟩ := hv
  refine WS_mono (law_4 A) (fun _ _ h => h.elim) fun d S' h => ?_
  subst h
  trivial
  rfl
theorem plain0 (ns : List Int) (hl : ns.length ≤ 63) : W (r_law [script ns]) [] (fun d _ => d = .bool true) NE := by
  unfold r_law
  rw [W_fnT, lw_b]
  show WS _ [some (script ns), none, none, none, none, none, none, none, none, none, none, none, none, none, none, none] [] _ _ _
  trivial
  refine WSF_inv (fun i v S' => ∃ y1 y2 y3 y4 y5 y6 y7 y8 y9 y10 y11 : Option D, v = [some (script ns), y1, y2, y3, y4, y5, y6, y7, y8, y9, y10, y11, none, none, none, none]) (fun _ => rfl) _ 0 _ _ (fun i d env S4 hd hinv => ?_) ⟨_, _, _, _, _, _, _, _, _, _, _, rfl⟩ (fun v S4 hv => ?_)
  · obtain ⟨hi, rfl⟩ := range_at hd
    obtain ⟨y1, y2, y3, y4, y5, y6, y7, y8, y9, y10, y11, rfl⟩ := hinv
    refine ⟨_, rfl, WS_mono (law_3 hl (by simp at hi; omega)) (fun v S5 hv => ?_) fun _ _ h => h.elim⟩
    obtain ⟨y2, y3, y4, y5, y6, y7, y8, y9, y10, y11, rfl⟩ := hv
    exact ⟨_, _, _, _, _, _, _, _, _, _, _, rfl⟩
  · exact law_5 exs hv
theorem plain (ns : List Int) (hl : ns.length ≤ 63) : ∃ S, r_law [script ns] [] = .ok (.bool true) S := by
  obtain ⟨a, S', e, h⟩ := W_out (plain0 ns hl)
  subst h
  exact ⟨S', e⟩
end Z
end
section
set_option maxHeartbeats 0
namespace Z
open PySem PySem.Spec PyProof.Rows L2
def dd (x : Str) (i : Nat) : He.DefD := ⟨(x, none), x, x, defArgs (top i), defBody (top i), defScope (top i), [], []⟩
def fnL : List He.DefD := [dd "_law_cell" 37, dd "_law_draws" 38, dd "_law_bag" 39, dd "_law_take" 40, dd "_law_choice" 41, dd "_law_hall" 44, dd "is_row" 18, dd "is_whole" 17, dd "is_wall" 19, dd "is_hall" 20, dd "need_hall" 26, dd "is_within" 23, dd "divisor_of" 13, dd "is_fraction" 21, dd "fits_ray" 22, dd "need_ray" 27, dd "lowest" 14, dd "level_at" 29, dd "band_at" 30, dd "height_at" 31, dd "run" 32, dd "word_of" 33, dd "hit" 34, dd "_law_lowest" 42, dd "_law_height" 46, dd "_law_less" 43, dd "_law_run" 47, dd "_law_named_error" 48, dd "_law_error" 49, dd "_law_all_refused" 51, dd "is_event" 24, dd "fits_word" 25, dd "does" 35, dd "_law_ray" 45, dd "_law_edge_ray" 52, dd "_law_truly" 50, dd "law" 53]
def faL : List He.Fa := [.glo "_law_cell", .glo "_law_draws", .glo "_law_bag", .glo "_law_take", .glo "_law_choice", .glo "_law_hall", .glo "is_row", .glo "is_whole", .glo "is_wall", .glo "is_hall", .glo "need_hall", .glo "is_within", .glo "divisor_of", .glo "is_fraction", .glo "fits_ray", .glo "need_ray", .glo "lowest", .glo "level_at", .glo "band_at", .glo "height_at", .glo "run", .glo "word_of", .glo "hit", .glo "_law_lowest", .glo "_law_height", .glo "_law_less", .glo "_law_run", .glo "_law_named_error", .glo "_law_error", .glo "_law_all_refused", .glo "is_event", .glo "fits_word", .glo "does", .glo "_law_ray", .glo "_law_edge_ray", .glo "_law_truly", .glo "law", .free "ValueError", .free "abs", .free "all", .free "bool", .free "int", .free "isinstance", .free "len", .free "list", .free "max", .free "min", .free "range", .free "sorted", .free "str", .free "tuple", .free "zip", .glo "AimError", .glo "InvalidHall", .glo "InvalidRay", .glo "InvalidWord", .glo "InvalidWall", .glo "InvalidPaper", .glo "InvalidFacts", .glo "InvalidDeed", .glo "InvalidText", .glo "Unlike", .glo "NothingToUndo", .exc "InvalidHall", .exc "InvalidRay", .exc "InvalidWord", .exc "InvalidWall", .exc "InvalidPaper", .exc "InvalidFacts", .exc "InvalidDeed", .exc "InvalidText", .exc "Unlike", .exc "NothingToUndo", .int "GREATEST" 1000000]
def errL : List Str := ["InvalidHall", "InvalidRay", "InvalidWord", "InvalidWall", "InvalidPaper", "InvalidFacts", "InvalidDeed", "InvalidText", "Unlike", "NothingToUndo"]
def looseL : List Str := (["AimError", "InvalidHall", "InvalidRay", "InvalidWord", "InvalidWall", "InvalidPaper", "InvalidFacts", "InvalidDeed", "InvalidText", "Unlike", "NothingToUndo", "divisor_of", "lowest", "GREATEST", "is_whole", "is_row", "is_wall", "is_hall", "is_fraction", "fits_ray", "is_within", "is_event", "fits_word", "need_hall", "need_ray", "level_at", "band_at", "height_at", "run", "word_of"] : List Str) ++ (["hit", "does", "_law_cell", "_law_draws", "_law_bag", "_law_take", "_law_choice", "_law_lowest", "_law_less", "_law_hall", "_law_ray", "_law_height", "_law_run", "_law_named_error", "_law_error", "_law_truly", "_law_all_refused", "_law_edge_ray"] : List Str)
def exL (K : PySem.W.Frag) : Bool := errsB errL K && decide ((He.cT K ("law", none)).2 ≠ (He.cT K ("_law_all_refused", none)).2) && decide ((He.cT K ("_law_all_refused", none)).2 ≠ (He.cT K ("law", none)).2)
abbrev RL : PySem.W.OpenRow := PySem.W.OpenLaw.row PySem.Challenge.rw_anyaim_k02_shots_of_told_rays
abbrev hkL : PySem.W.Hook := He.hookX 4 faL fnL [] [("law", none), ("_law_all_refused", none)] exL
def obL (s : PySem.W.SharedT) : He.AlX := He.obsX 4 faL fnL [] [("law", none), ("_law_all_refused", none)] exL (HandSHeadRun.getT s)
theorem obL_eq (s : PySem.W.SharedT) : obL s = hkL.obs s.abs := He.obsX_eq (HandSHeadRun.getT_eq s)
theorem runL (w : World) : HandSHeadRun.RunEq RL (PySem.W.view RL.prog [53]) hkL obL 6000 looseL w := by
  intro os
  kernel_rfl
theorem gfL {K : PySem.W.Frag} {h : Heap} {mg : Str → Option Value} (X : K.In h) (G : h.Ns mainGlobals mg) (c : He.SaysD faL fnL K) (ex : errsB errL K = true) : GF K mg where
  z_ValueError := He.free_ok X G (c.fact 37 (f := .free "ValueError") rfl)
  z_abs := He.free_ok X G (c.fact 38 (f := .free "abs") rfl)
  z_all := He.free_ok X G (c.fact 39 (f := .free "all") rfl)
  z_bool := He.free_ok X G (c.fact 40 (f := .free "bool") rfl)
  z_int := He.free_ok X G (c.fact 41 (f := .free "int") rfl)
  z_isinstance := He.free_ok X G (c.fact 42 (f := .free "isinstance") rfl)
  z_len := He.free_ok X G (c.fact 43 (f := .free "len") rfl)
  z_list := He.free_ok X G (c.fact 44 (f := .free "list") rfl)
  z_max := He.free_ok X G (c.fact 45 (f := .free "max") rfl)
  z_min := He.free_ok X G (c.fact 46 (f := .free "min") rfl)
  z_range := He.free_ok X G (c.fact 47 (f := .free "range") rfl)
  z_sorted := He.free_ok X G (c.fact 48 (f := .free "sorted") rfl)
  z_str := He.free_ok X G (c.fact 49 (f := .free "str") rfl)
  z_tuple := He.free_ok X G (c.fact 50 (f := .free "tuple") rfl)
  z_zip := He.free_ok X G (c.fact 51 (f := .free "zip") rfl)
  i_GREATEST := He.int_ok X G (c.fact 73 (f := .int "GREATEST" 1000000) rfl)
  x_InvalidHall := ex_of (He.glo_ok X G (c.fact 53 (f := .glo "InvalidHall") rfl)) (c.fact 63 (f := .exc "InvalidHall") rfl)
  x_InvalidRay := ex_of (He.glo_ok X G (c.fact 54 (f := .glo "InvalidRay") rfl)) (c.fact 64 (f := .exc "InvalidRay") rfl)
  x_InvalidWord := ex_of (He.glo_ok X G (c.fact 55 (f := .glo "InvalidWord") rfl)) (c.fact 65 (f := .exc "InvalidWord") rfl)
  x_InvalidWall := ex_of (He.glo_ok X G (c.fact 56 (f := .glo "InvalidWall") rfl)) (c.fact 66 (f := .exc "InvalidWall") rfl)
  x_InvalidPaper := ex_of (He.glo_ok X G (c.fact 57 (f := .glo "InvalidPaper") rfl)) (c.fact 67 (f := .exc "InvalidPaper") rfl)
  x_InvalidFacts := ex_of (He.glo_ok X G (c.fact 58 (f := .glo "InvalidFacts") rfl)) (c.fact 68 (f := .exc "InvalidFacts") rfl)
  x_InvalidDeed := ex_of (He.glo_ok X G (c.fact 59 (f := .glo "InvalidDeed") rfl)) (c.fact 69 (f := .exc "InvalidDeed") rfl)
  x_InvalidText := ex_of (He.glo_ok X G (c.fact 60 (f := .glo "InvalidText") rfl)) (c.fact 70 (f := .exc "InvalidText") rfl)
  x_Unlike := ex_of (He.glo_ok X G (c.fact 61 (f := .glo "Unlike") rfl)) (c.fact 71 (f := .exc "Unlike") rfl)
  x_NothingToUndo := ex_of (He.glo_ok X G (c.fact 62 (f := .glo "NothingToUndo") rfl)) (c.fact 72 (f := .exc "NothingToUndo") rfl)
  c_AimError := ⟨_, He.glo_ok X G (c.fact 52 (f := .glo "AimError") rfl)⟩
  ec := errs_of (cs := errL) ex (by
    intro x hx
    simp only [errL, List.mem_cons, List.not_mem_nil, or_false] at hx
    rcases hx with rfl | rfl | rfl | rfl | rfl | rfl | rfl | rfl | rfl | rfl
    · exact He.glo_ok X G (c.fact 53 (f := .glo "InvalidHall") rfl)
    · exact He.glo_ok X G (c.fact 54 (f := .glo "InvalidRay") rfl)
    · exact He.glo_ok X G (c.fact 55 (f := .glo "InvalidWord") rfl)
    · exact He.glo_ok X G (c.fact 56 (f := .glo "InvalidWall") rfl)
    · exact He.glo_ok X G (c.fact 57 (f := .glo "InvalidPaper") rfl)
    · exact He.glo_ok X G (c.fact 58 (f := .glo "InvalidFacts") rfl)
    · exact He.glo_ok X G (c.fact 59 (f := .glo "InvalidDeed") rfl)
    · exact He.glo_ok X G (c.fact 60 (f := .glo "InvalidText") rfl)
    · exact He.glo_ok X G (c.fact 61 (f := .glo "Unlike") rfl)
    · exact He.glo_ok X G (c.fact 62 (f := .glo "NothingToUndo") rfl)) (He.glo_ok X G (c.fact 52 (f := .glo "AimError") rfl))
  f__law_cell := defok_of (He.glo_ok X G (c.fact 0 (f := .glo "_law_cell") rfl)) (c.def_ 0 (d := dd "_law_cell" 37) rfl) fun _ _ _ _ _ _ us hl => match us, hl with | [_, _], _ => rfl
  f__law_draws := defok_of (He.glo_ok X G (c.fact 1 (f := .glo "_law_draws") rfl)) (c.def_ 1 (d := dd "_law_draws" 38) rfl) fun _ _ _ _ _ _ us hl => match us, hl with | [_, _, _, _], _ => rfl
  f__law_bag := defok_of (He.glo_ok X G (c.fact 2 (f := .glo "_law_bag") rfl)) (c.def_ 2 (d := dd "_law_bag" 39) rfl) fun _ _ _ _ _ _ us hl => match us, hl with | [_, _], _ => rfl
  f__law_take := defok_of (He.glo_ok X G (c.fact 3 (f := .glo "_law_take") rfl)) (c.def_ 3 (d := dd "_law_take" 40) rfl) fun _ _ _ _ _ _ us hl => match us, hl with | [_, _], _ => rfl
  f__law_choice := defok_of (He.glo_ok X G (c.fact 4 (f := .glo "_law_choice") rfl)) (c.def_ 4 (d := dd "_law_choice" 41) rfl) fun _ _ _ _ _ _ us hl => match us, hl with | [_, _], _ => rfl
  f__law_hall := defok_of (He.glo_ok X G (c.fact 5 (f := .glo "_law_hall") rfl)) (c.def_ 5 (d := dd "_law_hall" 44) rfl) fun _ _ _ _ _ _ us hl => match us, hl with | [_, _], _ => rfl
  f_is_row := defok_of (He.glo_ok X G (c.fact 6 (f := .glo "is_row") rfl)) (c.def_ 6 (d := dd "is_row" 18) rfl) fun _ _ _ _ _ _ us hl => match us, hl with | [_, _, _], _ => rfl
  f_is_whole := defok_of (He.glo_ok X G (c.fact 7 (f := .glo "is_whole") rfl)) (c.def_ 7 (d := dd "is_whole" 17) rfl) fun _ _ _ _ _ _ us hl => match us, hl with | [_, _, _], _ => rfl
  f_is_wall := defok_of (He.glo_ok X G (c.fact 8 (f := .glo "is_wall") rfl)) (c.def_ 8 (d := dd "is_wall" 19) rfl) fun _ _ _ _ _ _ us hl => match us, hl with | [_, _, _], _ => rfl
  f_is_hall := defok_of (He.glo_ok X G (c.fact 9 (f := .glo "is_hall") rfl)) (c.def_ 9 (d := dd "is_hall" 20) rfl) fun _ _ _ _ _ _ us hl => match us, hl with | [_], _ => rfl
  f_need_hall := defok_of (He.glo_ok X G (c.fact 10 (f := .glo "need_hall") rfl)) (c.def_ 10 (d := dd "need_hall" 26) rfl) fun _ _ _ _ _ _ us hl => match us, hl with | [_], _ => rfl
  f_is_within := defok_of (He.glo_ok X G (c.fact 11 (f := .glo "is_within") rfl)) (c.def_ 11 (d := dd "is_within" 23) rfl) fun _ _ _ _ _ _ us hl => match us, hl with | [_, _], _ => rfl
  f_divisor_of := defok_of (He.glo_ok X G (c.fact 12 (f := .glo "divisor_of") rfl)) (c.def_ 12 (d := dd "divisor_of" 13) rfl) fun _ _ _ _ _ _ us hl => match us, hl with | [_, _], _ => rfl
  f_is_fraction := defok_of (He.glo_ok X G (c.fact 13 (f := .glo "is_fraction") rfl)) (c.def_ 13 (d := dd "is_fraction" 21) rfl) fun _ _ _ _ _ _ us hl => match us, hl with | [_], _ => rfl
  f_fits_ray := defok_of (He.glo_ok X G (c.fact 14 (f := .glo "fits_ray") rfl)) (c.def_ 14 (d := dd "fits_ray" 22) rfl) fun _ _ _ _ _ _ us hl => match us, hl with | [_, _], _ => rfl
  f_need_ray := defok_of (He.glo_ok X G (c.fact 15 (f := .glo "need_ray") rfl)) (c.def_ 15 (d := dd "need_ray" 27) rfl) fun _ _ _ _ _ _ us hl => match us, hl with | [_, _], _ => rfl
  f_lowest := defok_of (He.glo_ok X G (c.fact 16 (f := .glo "lowest") rfl)) (c.def_ 16 (d := dd "lowest" 14) rfl) fun _ _ _ _ _ _ us hl => match us, hl with | [_, _], _ => rfl
  f_level_at := defok_of (He.glo_ok X G (c.fact 17 (f := .glo "level_at") rfl)) (c.def_ 17 (d := dd "level_at" 29) rfl) fun _ _ _ _ _ _ us hl => match us, hl with | [_, _], _ => rfl
  f_band_at := defok_of (He.glo_ok X G (c.fact 18 (f := .glo "band_at") rfl)) (c.def_ 18 (d := dd "band_at" 30) rfl) fun _ _ _ _ _ _ us hl => match us, hl with | [_, _], _ => rfl
  f_height_at := defok_of (He.glo_ok X G (c.fact 19 (f := .glo "height_at") rfl)) (c.def_ 19 (d := dd "height_at" 31) rfl) fun _ _ _ _ _ _ us hl => match us, hl with | [_, _], _ => rfl
  f_run := defok_of (He.glo_ok X G (c.fact 20 (f := .glo "run") rfl)) (c.def_ 20 (d := dd "run" 32) rfl) fun _ _ _ _ _ _ us hl => match us, hl with | [_, _], _ => rfl
  f_word_of := defok_of (He.glo_ok X G (c.fact 21 (f := .glo "word_of") rfl)) (c.def_ 21 (d := dd "word_of" 33) rfl) fun _ _ _ _ _ _ us hl => match us, hl with | [_, _], _ => rfl
  f_hit := defok_of (He.glo_ok X G (c.fact 22 (f := .glo "hit") rfl)) (c.def_ 22 (d := dd "hit" 34) rfl) fun _ _ _ _ _ _ us hl => match us, hl with | [_, _], _ => rfl
  f__law_lowest := defok_of (He.glo_ok X G (c.fact 23 (f := .glo "_law_lowest") rfl)) (c.def_ 23 (d := dd "_law_lowest" 42) rfl) fun _ _ _ _ _ _ us hl => match us, hl with | [_, _], _ => rfl
  f__law_height := defok_of (He.glo_ok X G (c.fact 24 (f := .glo "_law_height") rfl)) (c.def_ 24 (d := dd "_law_height" 46) rfl) fun _ _ _ _ _ _ us hl => match us, hl with | [_, _, _], _ => rfl
  f__law_less := defok_of (He.glo_ok X G (c.fact 25 (f := .glo "_law_less") rfl)) (c.def_ 25 (d := dd "_law_less" 43) rfl) fun _ _ _ _ _ _ us hl => match us, hl with | [_, _], _ => rfl
  f__law_run := defok_of (He.glo_ok X G (c.fact 26 (f := .glo "_law_run") rfl)) (c.def_ 26 (d := dd "_law_run" 47) rfl) fun _ _ _ _ _ _ us hl => match us, hl with | [_, _], _ => rfl
  f__law_named_error := defok_of (He.glo_ok X G (c.fact 27 (f := .glo "_law_named_error") rfl)) (c.def_ 27 (d := dd "_law_named_error" 48) rfl) fun _ _ _ _ _ _ us hl => match us, hl with | [_], _ => rfl
  f__law_error := defok_of (He.glo_ok X G (c.fact 28 (f := .glo "_law_error") rfl)) (c.def_ 28 (d := dd "_law_error" 49) rfl) fun _ _ _ _ _ _ us hl => match us, hl with | [_], _ => rfl
  f__law_all_refused := defok_of (He.glo_ok X G (c.fact 29 (f := .glo "_law_all_refused") rfl)) (c.def_ 29 (d := dd "_law_all_refused" 51) rfl) fun _ _ _ _ _ _ us hl => match us, hl with | [_, _, _], _ => rfl
  f_is_event := defok_of (He.glo_ok X G (c.fact 30 (f := .glo "is_event") rfl)) (c.def_ 30 (d := dd "is_event" 24) rfl) fun _ _ _ _ _ _ us hl => match us, hl with | [_, _], _ => rfl
  f_fits_word := defok_of (He.glo_ok X G (c.fact 31 (f := .glo "fits_word") rfl)) (c.def_ 31 (d := dd "fits_word" 25) rfl) fun _ _ _ _ _ _ us hl => match us, hl with | [_, _], _ => rfl
  f_does := defok_of (He.glo_ok X G (c.fact 32 (f := .glo "does") rfl)) (c.def_ 32 (d := dd "does" 35) rfl) fun _ _ _ _ _ _ us hl => match us, hl with | [_, _, _], _ => rfl
  f__law_ray := defok_of (He.glo_ok X G (c.fact 33 (f := .glo "_law_ray") rfl)) (c.def_ 33 (d := dd "_law_ray" 45) rfl) fun _ _ _ _ _ _ us hl => match us, hl with | [_, _], _ => rfl
  f__law_edge_ray := defok_of (He.glo_ok X G (c.fact 34 (f := .glo "_law_edge_ray") rfl)) (c.def_ 34 (d := dd "_law_edge_ray" 52) rfl) fun _ _ _ _ _ _ us hl => match us, hl with | [_, _], _ => rfl
  f__law_truly := defok_of (He.glo_ok X G (c.fact 35 (f := .glo "_law_truly") rfl)) (c.def_ 35 (d := dd "_law_truly" 50) rfl) fun _ _ _ _ _ _ us hl => match us, hl with | [_, _], _ => rfl
  f_law := defok_of (He.glo_ok X G (c.fact 36 (f := .glo "law") rfl)) (c.def_ 36 (d := dd "law" 53) rfl) fun _ _ _ _ _ _ us hl => match us, hl with | [_], _ => rfl
theorem lawL {w : World} {K : PySem.W.Frag} {h : Heap} {mg : Str → Option Value} {fa : Addr} (X : K.In h) (G : h.Ns mainGlobals mg) (hmg : mg ("law" : Str) = some (.ref fa)) (c : He.SaysX faL fnL [] [("law", none), ("_law_all_refused", none)] exL w h K) : LamX.LawAtS PySem.Challenge.rw_anyaim_k02_shots_of_told_rays w K (L2N.CX PySem.Challenge.rw_anyaim_k02_shots_of_told_rays.prog w) 10 63 "_law_script" mg fa h := by
  have hex := c.more
  unfold exL at hex
  simp only [Bool.and_eq_true, decide_eq_true_eq] at hex
  have gf := gfL X G c.t.d hex.1.1
  have hf := He.glo_ok X G (c.t.d.fact 36 (f := .glo "law") rfl)
  obtain rfl : fa = He.ga K "law" := by rw [hf] at hmg; cases hmg; rfl
  obtain ⟨fd, F⟩ := c.t.d.def_ 36 (d := dd "law" 53) rfl
  have F : FunD K "law" "law" (defArgs (top 53)) (defBody (top 53)) (defScope (top 53)) [] [] (He.ga K "law") fd := F
  have hcd : fd.code = .ref (He.cT K ("law", none)).1 := by
    obtain ⟨oc, od, dV, kV, doc, pm, an, cdv, ct, osl, rfl, lk, hcd, _, _⟩ := F.ex
    obtain ⟨c', rfl⟩ := He.codeIn_ref hcd
    have e : He.codeOf K ("law", none) = c' := He.codeOf_eq (p := ("law", none)) lk rfl
    show Value.ref c' = .ref (He.codeOf K ("law", none))
    rw [e]
  refine law_ats (g := r_law) (st := top 53) X F (fun _ _ _ _ _ _ us hl => match us, hl with | [_], _ => rfl) [((He.cT K ("law", none)).1, (He.cT K ("law", none)).2, ((("law" : Str) ++ ".<locals>.") ++ "<lambda>")), ((He.cT K ("_law_all_refused", none)).1, (He.cT K ("_law_all_refused", none)).2, ((("_law_all_refused" : Str) ++ ".<locals>.") ++ "<lambda>"))] ?he ?ho ?hh (fun base _ TB => ?_) plain
  case he =>
    intro p hp
    simp only [List.mem_cons, List.not_mem_nil, or_false] at hp
    rcases hp with rfl | rfl
    · exact c.empty ("law", none) (by simp)
    · exact c.empty ("_law_all_refused", none) (by simp)
  case ho =>
    intro p hp
    simp only [List.mem_cons, List.not_mem_nil, or_false] at hp
    rcases hp with rfl | rfl
    · exact c.out ("law", none) (by simp)
    · exact c.out ("_law_all_refused", none) (by simp)
  case hh =>
    intro p hp
    simp only [List.mem_cons, List.not_mem_nil, or_false] at hp
    rcases hp with rfl | rfl
    · exact c.hd ("law", none) (by simp)
    · exact c.hd ("_law_all_refused", none) (by simp)
  exact F_law gf (fun_of F) hcd (TB ((He.cT K ("law", none)).1, (He.cT K ("law", none)).2, ((("law" : Str) ++ ".<locals>.") ++ "<lambda>")) (by simp)) (List.mem_map.mpr ⟨((He.cT K ("law", none)).1, (He.cT K ("law", none)).2, ((("law" : Str) ++ ".<locals>.") ++ "<lambda>")), by simp, rfl⟩) (by
    intro p hp e
    simp only [tbOf, List.map_cons, List.map_nil, List.mem_cons, List.not_mem_nil, or_false] at hp
    rcases hp with rfl | rfl
    · rfl
    · exact absurd e hex.2) (codeAt_of (He.glo_ok X G (c.t.d.fact 29 (f := .glo "_law_all_refused") rfl))) (TB ((He.cT K ("_law_all_refused", none)).1, (He.cT K ("_law_all_refused", none)).2, ((("_law_all_refused" : Str) ++ ".<locals>.") ++ "<lambda>")) (by simp)) (List.mem_map.mpr ⟨((He.cT K ("_law_all_refused", none)).1, (He.cT K ("_law_all_refused", none)).2, ((("_law_all_refused" : Str) ++ ".<locals>.") ++ "<lambda>")), by simp, rfl⟩) (by
    intro p hp e
    simp only [tbOf, List.map_cons, List.map_nil, List.mem_cons, List.not_mem_nil, or_false] at hp
    rcases hp with rfl | rfl
    · exact absurd e hex.1.2
    · rfl)
end Z
open PySem PySem.W PySem.Calls PyProof.Rows
theorem PySem.Challenge.cw_anyaim_k02_shots_of_told_rays_holds : PySem.Challenge.rw_anyaim_k02_shots_of_told_rays.Holds := by
  w_on; o_law
  refine HandSHeadRun.head_any (r := OpenLaw.row PySem.Challenge.rw_anyaim_k02_shots_of_told_rays) (q := view (OpenLaw.row PySem.Challenge.rw_anyaim_k02_shots_of_told_rays).prog [53]) (H := Z.hkL) (ob := Z.obL) (M := 6000) (loose := Z.looseL) (d := HandSHeadRun.topDef (OpenLaw.row PySem.Challenge.rw_anyaim_k02_shots_of_told_rays).prog 53) (kwd := []) Z.obL_eq
    (by kernel_rfl) (fun s => by kernel_rfl) Z.runL (by kernel_rfl) (by kernel_rfl) (by kernel_rfl) (by rfl) (by first | assumption | decide +kernel) (by decide +kernel) ⟨rfl, rfl, rfl, rfl, rfl, by decide +kernel⟩ ?hw ?hc
  case hw => w_witness2
  case hc =>
    refine LamX.walk_ofTsE (l := PySem.Challenge.rw_anyaim_k02_shots_of_told_rays) (n := 63) (k := 10) (x := "_law_script") (CX := fun w => L2N.CX PySem.Challenge.rw_anyaim_k02_shots_of_told_rays.prog w) rfl (by decide) (by kernel_rfl) ⟨rfl, by decide, by decide⟩ ?F (fun _ _ _ _ _ z => Z.cx_none z)
    intro w mg fa h Y G hmg0
    obtain ⟨K, KX, c⟩ := Y
    have hmg : mg ("law" : PySem.Str) = some (.ref fa) := by
      have e : (HandSHeadRun.topDef (OpenLaw.row PySem.Challenge.rw_anyaim_k02_shots_of_told_rays).prog 53).name = ("law" : PySem.Str) := by kernel_rfl
      rw [← e]
      exact hmg0
    exact ⟨K, KX, Z.lawL KX G hmg c⟩
end
